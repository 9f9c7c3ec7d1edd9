import Derived.Deep.Slices
import Derived.ChangeArms
import Derived.DataReads
import Derived.WideKeyArgs
import Derived.SizedLaws
import Derived.Test.YtgjcjbhhhlelnaaGreatDoorProg
import Derived.ProofKit
import Derived.Shelf.Spec.SlicesGrow
import Derived.Test.YtgjcjbhhhlelnaaGreatDoorHWa5
set_option linter.all false
section
namespace Go.Proofs.YtgjcjbhhhlelnaaGreatDoor.Abs
open Go Go.RowKit Go.ChangeShapes Go.WideShapes Go.Deep
def Zs7 (P:Program):List Field→Nat→Nat→Bool
 | [],o,n=>o == n
 | f :: r,o,n=>(f.offset == o) && Zs7 P r (o + P.cellsOf f.type) n
def Zu6 (P:Program):Nat→TypeId→Bool
 | 0,_=>false
 | n + 1,t=>match P.underlying t with
  | some .bool=>true
  | some (.int _)=>true
  | some .string=>true
  | some (.slice e)=>(decide (0 < P.cellsOf e) && decide (0 < P.bytesOf e)) && Zu6 P n e
  | some (.struct fs)=>Zs7 P fs.toList 0 (P.cellsOf t) && fs.toList.all fun f=>Zu6 P n f.type
  | _=>false
def ZiR {H:Type}(P:Program):Nat→TypeId→List AV→DataW H→Prop
 | 0,_,_,_=>False
 | n + 1,t,az,d=>match P.underlying t with
  | some .bool=>∃ b,az=[.bool b]∧d=.lit (.bool b)
  | some (.int k)=>∃ x,az=[.int k x]∧d=.lit (.int k x)∧(Lit.int k x).wf=true
  | some .string=>∃ s,az=[.str s]∧d=.lit (.string s)∧s.length≤140737488351232
  | some (.slice e)=>∃ rows,az=[.lst (P.cellsOf e) rows]∧rows.length≤140737488351232∧((rows=[]∧d=.nil)∨∃ D ds spare,d=.slice ds spare∧ds=(List.range rows.length).map D∧∀ (i:Nat) (r:List AV),rows[i]? = some r→ZiR P n e r (D i))
  | some (.struct fs)=>az.length=P.cellsOf t∧∃ ds,d=.agg ds∧ds.length=fs.size∧∀ (i:Nat) (f:Field),fs.toList[i]? = some f→∃ di,ds[i]? = some di∧ZiR P n f.type ((az.drop f.offset).take (P.cellsOf f.type)) di
  | _=>False
structure Shp {H:Type}(P:Program)(n:Nat)(t:TypeId)(az:List AV)(d:DataW H):Prop where
 ok:ZiR P n t az d
theorem Zbg {n:Nat}(h:n≤reachBytes):n≤140737488351232:=h
theorem Shp.bool {H:Type}{P:Program}{n:Nat}{t:TypeId}{az:List AV}{d:DataW H}(h:Shp P (n + 1) t az d)(hu:P.underlying t=some .bool):∃ b,az=[.bool b]∧d=.lit (.bool b):=by
 have h:=h.ok; rw [ZiR,hu] at h; exact h
theorem Shp.int {H:Type}{P:Program}{n:Nat}{t:TypeId}{k:IntKind}{az:List AV}{d:DataW H}(h:Shp P (n + 1) t az d)(hu:P.underlying t=some (.int k)):∃ x,az=[.int k x]∧d=.lit (.int k x)∧k.min≤x∧x≤k.max:=by
 have h:=h.ok
 rw [ZiR,hu] at h
 obtain ⟨x,h1,h2,h3⟩:=h
 simp only [Lit.wf,Bool.and_eq_true,decide_eq_true_eq] at h3
 exact ⟨x,h1,h2,h3⟩
theorem Shp.i64 {H:Type}{P:Program}{n:Nat}{t:TypeId}{az:List AV}{d:DataW H}(h:Shp P (n + 1) t az d)(hu:P.underlying t=some (.int .i64)):∃ x,az=[.int .i64 x]∧d=.lit (.int .i64 x)∧-9223372036854775808≤x∧x≤9223372036854775807:=by
 obtain ⟨x,h1,h2,h3⟩:=h.int hu
 exact ⟨x,h1,h2,by simpa [IntKind.min,IntKind.max,IntKind.signed,IntKind.bits] using h3⟩
theorem Shp.str {H:Type}{P:Program}{n:Nat}{t:TypeId}{az:List AV}{d:DataW H}(h:Shp P (n + 1) t az d)(hu:P.underlying t=some .string):∃ s,az=[.str s]∧d=.lit (.string s)∧s.length≤140737488351232:=by
 have h:=h.ok; rw [ZiR,hu] at h; exact h
theorem Shp.slice {H:Type}{P:Program}{n:Nat}{t e:TypeId}{az:List AV}{d:DataW H}(h:Shp P (n + 1) t az d)(hu:P.underlying t=some (.slice e)):∃ rows,az=[.lst (P.cellsOf e) rows]∧rows.length≤140737488351232∧((rows=[]∧d=.nil)∨∃ D ds spare,d=.slice ds spare∧ds=(List.range rows.length).map D∧∀ (i:Nat) (r:List AV),rows[i]? = some r→Shp P n e r (D i)):=by
 have h:=h.ok
 rw [ZiR,hu] at h
 obtain ⟨rows,h1,h2,h3⟩:=h
 refine ⟨rows,h1,h2,h3.imp id ?_⟩
 rintro ⟨D,ds,spare,e1,e2,e3⟩
 exact ⟨D,ds,spare,e1,e2,fun i r hr=>⟨e3 i r hr⟩⟩
theorem Shp.struct {H:Type}{P:Program}{n:Nat}{t:TypeId}{fs:Array Field}{az:List AV}{d:DataW H}(h:Shp P (n + 1) t az d)(hu:P.underlying t=some (.struct fs)):az.length=P.cellsOf t∧∃ ds,d=.agg ds∧ds.length=fs.size∧∀ (i:Nat) (f:Field),fs.toList[i]? = some f→∃ di,ds[i]? = some di∧Shp P n f.type ((az.drop f.offset).take (P.cellsOf f.type)) di:=by
 have h:=h.ok
 rw [ZiR,hu] at h
 obtain ⟨h1,ds,h2,h3,h4⟩:=h
 exact ⟨h1,ds,h2,h3,fun i f hf=>let ⟨di,e1,e2⟩:=h4 i f hf; ⟨di,e1,⟨e2⟩⟩⟩
def VX (Γ:ZF)(w:World)(a:AV)(v:Value):Prop:=Rep Γ w a v∧a.one=true∧a.noId1=true∧∀ k r,a≠.own k r
variable {H:Type}{enc:TypeId×Value→H}{P:Program}{w:World}{base:Nat}{sp:Nat→Bool}{held:Bool}{Γ:ZF}
theorem ZkQ {H:Type}{P:Program}{e:TypeId}{d:DataW H}{y:Nat}:∀ {ds:List (DataW H)},d ∈ ds→y ∈ d.weights P e→y ∈ DataW.weightsAll P e ds
 | [],h,_=>by simp at h
 | z :: ds,h,hy=>by
  rw [DataW.weightsAll,List.mem_append]
  rcases List.mem_cons.1 h with rfl | h
  ·exact .inl hy
  ·exact .inr (ZkQ h hy)
theorem sized_arg {H:Type}{P:Program}{ts:List TypeId}{ds:List (DataW H)}(h:(DataW.weightsEach P ts ds).all (·≤reachBytes)=true){j:Nat}{t:TypeId}{d:DataW H}(ht:ts[j]? = some t)(hd:ds[j]? = some d):∀ y ∈ d.weights P t,y≤reachBytes:=fun y hy=>by
 have:=List.all_eq_true.1 h _ (DataW.weights_mem_each ht hd y hy)
 simpa using this
theorem Ze4 (n fuel:Nat)(cs:List Value)
  (ih:∀ (t:TypeId) (cs:List Value) (x:DataW H×List MemPlace),Zu6 P n t=true→DataW.trod enc P w base sp held fuel t cs=some x→(∀ y ∈ x.1.weights P t,y≤reachBytes)→∃ az:List AV,ZiR P n t az x.1∧az.length=cs.length∧∀ j a,az[j]? = some a→VX Γ w a (cs.getD j Go.undef)) :
  ∀ (fs:List Field) (xs:List (DataW H×List MemPlace)) (o m:Nat),Zs7 P fs o m=true→m=cs.length→(fs.all fun f=>Zu6 P n f.type)=true→(∀ (i:Nat) (f:Field),fs[i]? = some f→∃ x,xs[i]? = some x∧DataW.trod enc P w base sp held fuel f.type ((cs.drop f.offset).take (P.cellsOf f.type))=some x∧∀ y ∈ x.1.weights P f.type,y≤reachBytes) →
   o≤m∧∃ az:List AV,az.length=m - o∧(∀ (i:Nat) (f:Field),fs[i]? = some f→o≤f.offset∧∃ x,xs[i]? = some x∧ZiR P n f.type ((az.drop (f.offset - o)).take (P.cellsOf f.type)) x.1)∧∀ j a,az[j]? = some a→VX Γ w a (cs.getD (o + j) Go.undef)
 | [],xs,o,m,ht,hm,_,_=>by
  have:o=m:=by simpa [Zs7] using ht
  subst this
  exact ⟨Nat.le_refl _,[],by simp,fun i f hf=>by simp at hf,fun j a h=>by simp at h⟩
 | f :: r,xs,o,m,ht,hm,hok,hx=>by
  simp only [Zs7,Bool.and_eq_true,beq_iff_eq] at ht
  simp only [List.all_cons,Bool.and_eq_true] at hok
  obtain ⟨x,hx0,hxf,hxw⟩:=hx 0 f rfl
  obtain ⟨xs,rfl⟩:∃ xs',xs=x :: xs':=by
   cases xs with
   | nil=>simp at hx0
   | cons y ys=>simp at hx0; exact ⟨ys,by rw [hx0]⟩
  obtain ⟨hle,az,hl,hs,hr⟩:=Ze4 n fuel cs ih r xs _ m ht.2 hm hok.2 (fun i g hg=>hx (i + 1) g hg)
  obtain ⟨a1,s1,l1,r1⟩:=ih _ _ _ hok.1 hxf hxw
  have hlen:((cs.drop f.offset).take (P.cellsOf f.type)).length=P.cellsOf f.type:=by
   rw [List.length_take,List.length_drop]; omega
  rw [hlen] at l1
  refine ⟨by omega,a1 ++ az,by rw [List.length_append]; omega,fun i g hg=>?_,fun j a hj=>?_⟩
  ·cases i with
   | zero =>
    simp only [List.getElem?_cons_zero,Option.some.injEq] at hg
    subst hg
    refine ⟨by omega,x,rfl,?_⟩
    rw [ht.1,Nat.sub_self,List.drop_zero,List.take_append_of_le_length (by omega),List.take_of_length_le (by omega)]
    exact s1
   | succ i =>
    simp only [List.getElem?_cons_succ] at hg
    obtain ⟨q1,q2⟩:=hs i g hg
    refine ⟨by omega,?_⟩
    rw [List.drop_append,List.drop_eq_nil_of_le (by omega),List.nil_append,l1]
    rw [show g.offset - o - P.cellsOf f.type=g.offset - (o + P.cellsOf f.type) by omega]
    simpa using q2
  ·by_cases hj2:j < a1.length
   ·rw [List.getElem?_append_left hj2] at hj
    have:=r1 j a hj
    have e:((cs.drop f.offset).take (P.cellsOf f.type)).getD j Go.undef=cs.getD (o + j) Go.undef:=by
     rw [List.getD_eq_getElem?_getD,List.getD_eq_getElem?_getD,List.getElem?_take_of_lt (by omega),List.getElem?_drop,ht.1]
    rwa [e] at this
   ·rw [List.getElem?_append_right (by omega)] at hj
    have:=hr _ a hj
    rwa [show o + P.cellsOf f.type + (j - a1.length)=o + j by omega] at this
theorem ZbR (hΓ:∀ b,Γ b=.imm):∀ (n fuel:Nat) (t:TypeId) (cs:List Value) (x:DataW H×List MemPlace),Zu6 P n t=true→DataW.trod enc P w base sp held fuel t cs=some x→(∀ y ∈ x.1.weights P t,y≤reachBytes) →
  ∃ az:List AV,ZiR P n t az x.1∧az.length=cs.length∧∀ j a,az[j]? = some a→VX Γ w a (cs.getD j Go.undef)
 | 0,_,_,_,_,h,_,_=>by cases h
 | n + 1,0,_,_,_,_,h,_=>by cases h
 | n + 1,fuel + 1,t,cs,x,ho,h,hwt=>by
  cases hu:P.underlying t with
  | none=>simp [Zu6,hu] at ho
  | some d =>
  have hS:∀ (az:List AV) (dd:DataW H),ZiR P (n + 1) t az dd=_:=fun az dd=>by rw [ZiR,hu]
  have one:∀ (c:AV) (v:Value),VX Γ w c v→∀ j a,[c][j]? = some a→VX Γ w a ([v].getD j Go.undef):=fun c v hc j a hj=>by
   match j,hj with
   | 0,hj=>cases hj; exact hc
   | j + 1,hj=>simp at hj
  cases d <;> simp only [Zu6,hu,Bool.false_eq_true] at ho
  case bool =>
   obtain ⟨b,rfl,rfl⟩:=DataW.trod_bool hu h
   exact ⟨[.bool b],(hS _ _).mpr ⟨b,rfl,rfl⟩,rfl,one _ _ ⟨.bool b,rfl,rfl,fun k r e=>by cases e⟩⟩
  case int k =>
   obtain ⟨x,rfl,rfl,hw⟩:=DataW.trod_int hu h
   exact ⟨[.int k x],(hS _ _).mpr ⟨x,rfl,rfl,hw⟩,rfl,one _ _ ⟨.int k x,rfl,rfl,fun k r e=>by cases e⟩⟩
  case string =>
   obtain ⟨b,rfl,rfl,hb⟩:=DataW.trod_string hu h
   have e:b=⟨b.data.toList.toArray⟩:=by cases b; simp
   refine ⟨[.str b.data.toList],(hS _ _).mpr ⟨_,rfl,rfl,Zbg (hwt _ (by simp [DataW.weights]))⟩,rfl,one _ _ ⟨?_,rfl,rfl,fun k r e=>by cases e⟩⟩
   have:Rep Γ w (.str b.data.toList) (.string ⟨b.data.toList.toArray⟩):=.str _
   rwa [← e] at this
  case slice e =>
   simp only [Bool.and_eq_true,decide_eq_true_eq] at ho
   rcases open_slice hu h with ⟨rfl,rfl⟩ | ⟨A,len,cap,m,n',D,Pl,rfl,hb,hl,hm,hmm,rfl,hi⟩
   ·exact ⟨[.lst (P.cellsOf e) []],(hS _ _).mpr ⟨[],rfl,by simp,.inl ⟨rfl,rfl⟩⟩,rfl,one _ _ ⟨.lstNil _,rfl,rfl,fun k r e=>by cases e⟩⟩
   ·have hlm:len≤m:=by rw [hmm]; split <;> omega
    have hwe:∀ i,i < len→∀ y ∈ (D i).weights P e,y≤reachBytes:=fun i hi y hy=>by
     refine hwt y ?_
     simp only [DataW.weights,hu]
     exact List.mem_cons_of_mem _ (List.mem_append_left _ (ZkQ (List.mem_map.2 ⟨i,by simpa using hi,rfl⟩) hy))
    have hlr:len≤140737488351232:=by
     refine Zbg (Nat.le_trans ?_ (hwt ((((List.range len).map D).length + ((List.range (m - len)).map fun j=>D (len + j)).length) * P.bytesOf e) ?_))
     ·simp only [List.length_map,List.length_range]
      exact Nat.le_trans (Nat.le_add_right _ _) (Nat.le_mul_of_pos_right _ ho.1.2)
     ·simp only [DataW.weights,hu]
      exact List.mem_cons_self ..
    have hrow:∀ i,∃ r:List AV,i < len→ZiR P n e r (D i)∧r.length=P.cellsOf e∧∀ j a,r[j]? = some a→w.cell? ((A.add (i * P.cellsOf e)).add j)=some ((w.cell? ((A.add (i * P.cellsOf e)).add j)).getD Go.undef)∧VX Γ w a ((w.cell? ((A.add (i * P.cellsOf e)).add j)).getD Go.undef):=fun i=>by
     by_cases hil:i < len
     ·obtain ⟨cs',hc,ht⟩:=hi i (by omega)
      obtain ⟨_,hlen,hcell⟩:=World.cells?_some hc
      obtain ⟨r,s1,l1,r1⟩:=ZbR hΓ n n' e cs' _ ho.2 ht (hwe i hil)
      refine ⟨r,fun _=>⟨s1,by omega,fun j a hj=>?_⟩⟩
      have hjl:j < r.length:=(List.getElem?_eq_some_iff.1 hj).1
      have hc2:=hcell j (by omega)
      have hr:=r1 j a hj
      rw [List.getElem?_eq_getElem (by omega)] at hc2
      rw [List.getD_eq_getElem?_getD,List.getElem?_eq_getElem (by omega)] at hr
      rw [hc2]
      exact ⟨rfl,hr⟩
     ·exact ⟨[],fun h=>absurd h hil⟩
    have hf:∃ f:Nat→List AV,∀ i,i < len→ZiR P n e (f i) (D i)∧(f i).length=P.cellsOf e∧∀ j a,(f i)[j]? = some a→w.cell? ((A.add (i * P.cellsOf e)).add j)=some ((w.cell? ((A.add (i * P.cellsOf e)).add j)).getD Go.undef)∧VX Γ w a ((w.cell? ((A.add (i * P.cellsOf e)).add j)).getD Go.undef) :=
     ⟨fun i=>(hrow i).choose,fun i=>(hrow i).choose_spec⟩
    obtain ⟨f,hf⟩:=hf
    have hget:∀ (i:Nat) (r:List AV),((List.range len).map f)[i]? = some r→i < len∧r=f i:=fun i r hr=>by
     rw [List.getElem?_map] at hr
     obtain ⟨i',hi',rfl⟩:=Option.map_eq_some_iff.1 hr
     have hlt:=(List.getElem?_eq_some_iff.1 hi').1
     rw [List.length_range] at hlt
     rw [List.getElem?_range hlt] at hi'
     obtain rfl:=Option.some.inj hi'
     exact ⟨hlt,rfl⟩
    refine ⟨[.lst (P.cellsOf e) ((List.range len).map f)],(hS _ _).mpr ⟨_,rfl,by simpa using hlr,.inr ⟨D,_,_,rfl,by simp,fun i r hr=>?_⟩⟩,rfl,one _ _ ⟨?_,rfl,rfl,fun k r e=>by cases e⟩⟩
    ·obtain ⟨h1,rfl⟩:=hget i r hr
     exact (hf i h1).1
    ·by_cases hex:∃ (i j:Nat) (a:AV),i < len∧(f i)[j]? = some a
     ·obtain ⟨i0,j0,a0,hi0,hj0⟩:=hex
      have h0:∃ v,w.cell? A=some v:=by
       have hj0l:j0 < (f i0).length:=(List.getElem?_eq_some_iff.1 hj0).1
       have hpos:0 < P.cellsOf e:=by have:=(hf i0 hi0).2.1; omega
       have hz:=(hf 0 (by omega)).2.1
       have:=((hf 0 (by omega)).2.2 0 ((f 0)[0]'(by omega)) (List.getElem?_eq_getElem _)).1
       rw [Nat.zero_mul] at this
       have e1:(A.add 0).add 0=A:=by simp [Addr.add]
       rw [e1] at this
       exact ⟨_,this⟩
      have hsp:A.spot=none:=by
       obtain ⟨v,hv⟩:=h0
       unfold World.cell? at hv
       split at hv
       ·split at hv
        ·cases hv
        ·rename_i hs; simpa using hs
       ·cases hv
      obtain ⟨b,o,q⟩:=A
      simp only at hsp
      subst hsp
      have hadd:∀ i j,((⟨b,o,none⟩:Addr).add (i * P.cellsOf e)).add j=⟨b,o + (i * P.cellsOf e + j),none⟩:=fun i j=>by
       rw [Go.Deep.add_add]
       unfold Addr.add
       split
       ·rename_i h0; simp [h0]
       ·rfl
      have hll:len=((List.range len).map f).length:=by simp
      generalize hrows:(List.range len).map f=rows at *
      subst hll
      refine .lst _ rows b o cap (fun i j=>(w.cell? ⟨b,o + (i * P.cellsOf e + j),none⟩).getD Go.undef) hl (fun r hr=>?_) (fun i j r c hr hc=>?_) (fun i j r c hr hc=>?_)
      ·obtain ⟨i,hi⟩:=List.mem_iff_getElem?.1 hr
       obtain ⟨h1,rfl⟩:=hget i r hi
       exact (hf i h1).2.1
      ·obtain ⟨h1,rfl⟩:=hget i r hr
       have:=(hf i h1).2.2 j c hc
       rw [hadd] at this
       exact ⟨this.1,by show QO _ (Γ b); rw [hΓ]; trivial,this.2.2.2.1⟩
      ·obtain ⟨h1,rfl⟩:=hget i r hr
       have:=(hf i h1).2.2 j c hc
       rw [hadd] at this
       exact this.2.1
     ·have h0:len=0:=by
       rcases Nat.eq_zero_or_pos len with h0 | h0
       ·exact h0
       ·refine absurd ⟨0,0,(f 0)[0]'(by have:=(hf 0 h0).2.1; have:=ho.1.1; omega),h0,List.getElem?_eq_getElem _⟩ hex
      subst h0
      exact .lstE _ A cap
  case struct fs =>
   simp only [Bool.and_eq_true] at ho
   obtain ⟨xs,n',hn,rfl,hlen,hxl,hf⟩:=DataW.trod_struct hu h
   obtain ⟨_,az,l1,s1,r1⟩:=Ze4 n n' cs (fun t cs x=>ZbR hΓ n n' t cs x) fs.toList xs 0 _ ho.1 hlen.symm ho.2 fun i f hf'=>by
    have hi':fs[i]? = some f:=by simpa using hf'
    have:=hf i f hi'
    have hlt:i < xs.length:=by rw [hxl]; exact (Array.getElem?_eq_some_iff.1 hi').1
    rw [List.getElem?_eq_getElem hlt] at this
    refine ⟨_,List.getElem?_eq_getElem hlt,this,fun y hy=>hwt y ?_⟩
    simp only [DataW.weights,hu]
    exact DataW.weights_mem_each (j := i) (t := f.type) (d := (xs[i]'hlt).1) (by simp [hi']) (by simp [List.getElem?_eq_getElem hlt]) y hy
   refine ⟨az,(hS _ _).mpr ⟨by omega,_,rfl,by simpa using hxl,fun i f hf'=>?_⟩,by omega,fun j a hj=>by simpa using r1 j a hj⟩
   obtain ⟨_,x,hx,hsx⟩:=s1 i f hf'
   exact ⟨x.1,by simp [hx],by simpa using hsx⟩
theorem arg_stays {t:TypeId}{v:Value}{d:DataW H}{ps:List MemPlace}{W W':World}(hl:laidOutB P=true)(hr:P.readableRec t=true)(hrow:t < P.types.size)(h:DataW.Trod enc P W 0 (fun _=>true) true t v d ps)(hb:Below W.heap.size W W')(hlt:∀ p ∈ ps,p.block < W.heap.size) :
  DataW.Trod enc P W' 0 (fun b=>decide (b < W.heap.size)) true t v d ps :=
 WideElems.Trod_stays hl hr hrow h (fun p hp=>hb.same (hlt p hp)) (fun p hp=>by simpa using hlt p hp)
end Go.Proofs.YtgjcjbhhhlelnaaGreatDoor.Abs
end
section
namespace Go.Proofs.YtgjcjbhhhlelnaaGreatDoor.Abs
open Go Go.RowKit Go.ChangeShapes Go.WideShapes Go.Deep
def Zu5 (P:Program)(S:List TypeId):Bool :=
 S.all fun t=>match P.underlying t with
  | some .bool=>true
  | some (.int _)=>true
  | some .string=>true
  | some (.slice e)=>(decide (0 < P.cellsOf e) && decide (0 < P.bytesOf e)) && S.contains e
  | some (.struct fs)=>Zs7 P fs.toList 0 (P.cellsOf t) && fs.toList.all fun f=>S.contains f.type
  | _=>false
inductive BI {H:Type}(P:Program):TypeId→List AV→DataW H→Prop
 | bool (t:TypeId) (b:Bool) (hu:P.underlying t=some .bool):BI P t [.bool b] (.lit (.bool b))
 | int (t:TypeId) (k:IntKind) (x:Int) (hu:P.underlying t=some (.int k)) (hw:(Lit.int k x).wf=true):BI P t [.int k x] (.lit (.int k x))
 | str (t:TypeId) (s:List UInt8) (hu:P.underlying t=some .string) (hl:s.length≤140737488351232):BI P t [.str s] (.lit (.string s))
 | nil (t e:TypeId) (hu:P.underlying t=some (.slice e)):BI P t [.lst (P.cellsOf e) []] .nil
 | slice (t e:TypeId) (rows:List (List AV)) (D:Nat→DataW H) (spare:List (DataW H)) (hu:P.underlying t=some (.slice e)) (hl:rows.length * P.bytesOf e≤140737488351232) (h:∀ (i:Nat) (r:List AV),rows[i]? = some r→BI P e r (D i)) :
   BI P t [.lst (P.cellsOf e) rows] (.slice ((List.range rows.length).map D) spare)
 | struct (t:TypeId) (fs:Array Field) (cs:List AV) (D:Nat→DataW H) (hu:P.underlying t=some (.struct fs)) (hl:cs.length=P.cellsOf t)
   (h:∀ (i:Nat) (f:Field),fs.toList[i]? = some f→BI P f.type ((cs.drop f.offset).take (P.cellsOf f.type)) (D i)):BI P t cs (.agg ((List.range fs.size).map D))
section
variable {H:Type}{P:Program}{t:TypeId}{cs:List AV}{d:DataW H}
theorem BI.toBool (h:BI P t cs d)(hu:P.underlying t=some .bool):∃ b,cs=[.bool b]∧d=.lit (.bool b):=by
 cases h <;> rename_i h2 <;> first | exact ⟨_,rfl,rfl⟩ | (simp_all; done)
theorem BI.toInt (h:BI P t cs d){k:IntKind}(hu:P.underlying t=some (.int k)):∃ x,cs=[.int k x]∧d=.lit (.int k x)∧k.min≤x∧x≤k.max:=by
 cases h with
 | int _ k' x h1 hw =>
  rw [hu] at h1; cases h1
  simp only [Lit.wf,Bool.and_eq_true,decide_eq_true_eq] at hw
  exact ⟨x,rfl,rfl,hw⟩
 | _=>simp_all
theorem BI.toI64 (h:BI P t cs d)(hu:P.underlying t=some (.int .i64)):∃ x,cs=[.int .i64 x]∧d=.lit (.int .i64 x)∧-9223372036854775808≤x∧x≤9223372036854775807:=by
 obtain ⟨x,h1,h2,h3⟩:=h.toInt hu
 exact ⟨x,h1,h2,by simpa [IntKind.min,IntKind.max,IntKind.signed,IntKind.bits] using h3⟩
theorem BI.toStr (h:BI P t cs d)(hu:P.underlying t=some .string):∃ s,cs=[.str s]∧d=.lit (.string s)∧s.length≤140737488351232:=by
 cases h with
 | str _ s h1 hl=>exact ⟨s,rfl,rfl,hl⟩
 | _=>simp_all
theorem BI.toSlice (h:BI P t cs d){e:TypeId}(hu:P.underlying t=some (.slice e)):∃ rows,cs=[.lst (P.cellsOf e) rows]∧rows.length * P.bytesOf e≤140737488351232∧∃ D:Nat→DataW H,(∀ (i:Nat) (r:List AV),rows[i]? = some r→BI P e r (D i))∧((rows=[]∧d=.nil)∨∃ spare,d=.slice ((List.range rows.length).map D) spare):=by
 cases h with
 | nil _ e' h1=>rw [hu] at h1; cases h1; exact ⟨[],rfl,by simp,fun _=>.nil,fun i r hr=>by simp at hr,.inl ⟨rfl,rfl⟩⟩
 | slice _ e' rows D spare h1 hl h=>rw [hu] at h1; cases h1; exact ⟨rows,rfl,hl,D,h,.inr ⟨spare,rfl⟩⟩
 | _=>simp_all
theorem BI.toStruct (h:BI P t cs d){fs:Array Field}(hu:P.underlying t=some (.struct fs)):cs.length=P.cellsOf t∧∃ D:Nat→DataW H,d=.agg ((List.range fs.size).map D)∧∀ (i:Nat) (f:Field),fs.toList[i]? = some f→BI P f.type ((cs.drop f.offset).take (P.cellsOf f.type)) (D i):=by
 cases h with
 | struct _ fs' _ D h1 hl h=>rw [hu] at h1; cases h1; exact ⟨hl,D,rfl,h⟩
 | _=>simp_all
end
def Of (P:Program)(t:TypeId)(cs:List AV):Prop:=∃ (H:Type) (d:DataW H),BI P t cs d
theorem BI.of {H:Type}{P:Program}{t:TypeId}{cs:List AV}{d:DataW H}(h:BI P t cs d):Of P t cs:=⟨H,d,h⟩
theorem Of.toBool {P:Program}{t:TypeId}{cs:List AV}(h:Of P t cs)(hu:P.underlying t=some .bool):∃ b,cs=[.bool b]:=by
 obtain ⟨H,d,h⟩:=h; obtain ⟨b,h1,_⟩:=h.toBool hu; exact ⟨b,h1⟩
theorem Of.toInt {P:Program}{t:TypeId}{cs:List AV}(h:Of P t cs){k:IntKind}(hu:P.underlying t=some (.int k)):∃ x,cs=[.int k x]∧k.min≤x∧x≤k.max:=by
 obtain ⟨H,d,h⟩:=h; obtain ⟨x,h1,_,h2⟩:=h.toInt hu; exact ⟨x,h1,h2⟩
theorem Of.toI64 {P:Program}{t:TypeId}{cs:List AV}(h:Of P t cs)(hu:P.underlying t=some (.int .i64)):∃ x,cs=[.int .i64 x]∧-9223372036854775808≤x∧x≤9223372036854775807:=by
 obtain ⟨H,d,h⟩:=h; obtain ⟨x,h1,_,h2⟩:=h.toI64 hu; exact ⟨x,h1,h2⟩
theorem Of.toStr {P:Program}{t:TypeId}{cs:List AV}(h:Of P t cs)(hu:P.underlying t=some .string):∃ s,cs=[.str s]∧s.length≤140737488351232:=by
 obtain ⟨H,d,h⟩:=h; obtain ⟨x,h1,_,h2⟩:=h.toStr hu; exact ⟨x,h1,h2⟩
theorem Of.toSlice {P:Program}{t:TypeId}{cs:List AV}(h:Of P t cs){e:TypeId}(hu:P.underlying t=some (.slice e)):∃ rows,cs=[.lst (P.cellsOf e) rows]∧rows.length * P.bytesOf e≤140737488351232∧∀ r ∈ rows,Of P e r:=by
 obtain ⟨H,d,h⟩:=h
 obtain ⟨rows,h1,h2,D,h3,_⟩:=h.toSlice hu
 exact ⟨rows,h1,h2,fun r hr=>by obtain ⟨i,hi⟩:=List.mem_iff_getElem?.1 hr; exact (h3 i r hi).of⟩
theorem Of.toStruct {P:Program}{t:TypeId}{cs:List AV}(h:Of P t cs){fs:Array Field}(hu:P.underlying t=some (.struct fs)):cs.length=P.cellsOf t∧∀ (i:Nat) (f:Field),fs.toList[i]? = some f→Of P f.type ((cs.drop f.offset).take (P.cellsOf f.type)):=by
 obtain ⟨H,d,h⟩:=h
 obtain ⟨h1,D,_,h2⟩:=h.toStruct hu
 exact ⟨h1,fun i f hf=>(h2 i f hf).of⟩
variable {H:Type}{enc:TypeId×Value→H}{P:Program}{w:World}{base:Nat}{sp:Nat→Bool}{held:Bool}{Γ:ZF}
theorem Zj4 {t e:TypeId}{fuel:Nat}{cs:List Value}{x:DataW H×List MemPlace}(ht:P.underlying t=some (.slice e))(h:DataW.trod enc P w base sp held (fuel + 1) t cs=some x) :
  (cs=[.slice none 0 0]∧x=(.nil,[])) ∨
  ∃ (a:Addr) (len cap m n:Nat) (D:Nat→DataW H) (Pl:Nat→List MemPlace),n=fuel∧cs=[.slice (some a) len cap]∧base≤a.block∧len≤cap∧cap≤maxLen∧m=(if sp a.block then cap else len) ∧
   x=(.slice ((List.range len).map D) ((List.range (m - len)).map fun j=>D (len + j)),MemPlace.row a (m * P.cellsOf e) ++ (List.range m).flatMap Pl) ∧
   ∀ i,i < m→∃ cs',w.cells? base (a.add (i * P.cellsOf e)) (P.cellsOf e)=some cs'∧DataW.trod enc P w base sp held n e cs'=some (D i,Pl i):=by
 rcases DataW.trod_slice ht h with h0 | ⟨a,len,cap,elems,rest,n,hn,rfl,rfl,hb,hl,hm,hlen,hel,hsp,hns⟩
 ·exact Or.inl h0
 right
 have hrl:rest.length=(if sp a.block then cap else len) - len:=by
  cases hs:sp a.block with
  | true=>simpa [hs] using (hsp hs).1
  | false=>simp [hns hs]
 have hle:len≤(if sp a.block then cap else len):=by split <;> omega
 have hall:(elems ++ rest).length=(if sp a.block then cap else len):=by rw [List.length_append,hlen,hrl]; omega
 refine ⟨a,len,cap,_,n,fun i=>((elems ++ rest).getD i (.nil,[])).1,fun i=>((elems ++ rest).getD i (.nil,[])).2,by omega,rfl,hb,hl,hm,rfl,?_,?_⟩
 ·refine Prod.ext ?_ ?_
  ·show DataW.slice (elems.map (·.1)) (rest.map (·.1))=_
   congr 1
   ·rw [map_by_index elems (.nil,[]) (·.1),hlen]
    refine List.map_congr_left fun i hi=>?_
    have hi':i < elems.length:=by rw [hlen]; simpa using hi
    simp [List.getD,List.getElem?_append_left hi']
   ·rw [map_by_index rest (.nil,[]) (·.1),hrl]
    refine List.map_congr_left fun j _=>?_
    simp [List.getD,List.getElem?_append_right (show elems.length≤len + j by omega),hlen]
  ·show MemPlace.row a ((elems.length + rest.length) * P.cellsOf e) ++ (elems ++ rest).flatMap (·.2)=_
   rw [flatMap_by_index (elems ++ rest) (.nil,[]) (·.2),hall,← List.length_append,hall]
 ·intro i hi
  have key:(w.cells? base (a.add (i * P.cellsOf e)) (P.cellsOf e)).bind (DataW.trod enc P w base sp held n e)=(elems ++ rest)[i]?:=by
   by_cases hil:i < len
   ·rw [hel i hil,List.getElem?_append_left (by omega)]
   ·have hs:sp a.block=true:=by
     cases hs:sp a.block with
     | true=>rfl
     | false=>simp [hs] at hi; omega
    have:=(hsp hs).2 (i - len) (by simp [hs] at hi; omega)
    rw [show len + (i - len)=i by omega] at this
    rw [this,List.getElem?_append_right (by omega),hlen]
  rw [List.getElem?_eq_getElem (by omega)] at key
  obtain ⟨cs',h1,h2⟩:=Option.bind_eq_some_iff.1 key
  refine ⟨cs',h1,?_⟩
  rw [h2]
  simp [List.getD,List.getElem?_eq_getElem (show i < (elems ++ rest).length by omega)]
theorem Zcc (S:List TypeId)(fuel:Nat)(cs:List Value)
  (ih:∀ (t:TypeId) (cs:List Value) (x:DataW H×List MemPlace),S.contains t=true→DataW.trod enc P w base sp held fuel t cs=some x→(∀ y ∈ x.1.weights P t,y≤reachBytes)→∃ az:List AV,BI P t az x.1∧az.length=cs.length∧∀ j a,az[j]? = some a→VX Γ w a (cs.getD j Go.undef)) :
  ∀ (fs:List Field) (xs:List (DataW H×List MemPlace)) (o m:Nat),Zs7 P fs o m=true→m=cs.length→(fs.all fun f=>S.contains f.type)=true→(∀ (i:Nat) (f:Field),fs[i]? = some f→∃ x,xs[i]? = some x∧DataW.trod enc P w base sp held fuel f.type ((cs.drop f.offset).take (P.cellsOf f.type))=some x∧∀ y ∈ x.1.weights P f.type,y≤reachBytes) →
   o≤m∧∃ az:List AV,az.length=m - o∧(∀ (i:Nat) (f:Field),fs[i]? = some f→o≤f.offset∧∃ x,xs[i]? = some x∧BI P f.type ((az.drop (f.offset - o)).take (P.cellsOf f.type)) x.1)∧∀ j a,az[j]? = some a→VX Γ w a (cs.getD (o + j) Go.undef)
 | [],xs,o,m,ht,hm,_,_=>by
  have:o=m:=by simpa [Zs7] using ht
  subst this
  exact ⟨Nat.le_refl _,[],by simp,fun i f hf=>by simp at hf,fun j a h=>by simp at h⟩
 | f :: r,xs,o,m,ht,hm,hok,hx=>by
  simp only [Zs7,Bool.and_eq_true,beq_iff_eq] at ht
  simp only [List.all_cons,Bool.and_eq_true] at hok
  obtain ⟨x,hx0,hxf,hxw⟩:=hx 0 f rfl
  obtain ⟨xs,rfl⟩:∃ xs',xs=x :: xs':=by
   cases xs with
   | nil=>simp at hx0
   | cons y ys=>simp at hx0; exact ⟨ys,by rw [hx0]⟩
  obtain ⟨hle,az,hl,hs,hr⟩:=Zcc S fuel cs ih r xs _ m ht.2 hm hok.2 (fun i g hg=>hx (i + 1) g hg)
  obtain ⟨a1,s1,l1,r1⟩:=ih _ _ _ hok.1 hxf hxw
  have hlen:((cs.drop f.offset).take (P.cellsOf f.type)).length=P.cellsOf f.type:=by
   rw [List.length_take,List.length_drop]; omega
  rw [hlen] at l1
  refine ⟨by omega,a1 ++ az,by rw [List.length_append]; omega,fun i g hg=>?_,fun j a hj=>?_⟩
  ·cases i with
   | zero =>
    simp only [List.getElem?_cons_zero,Option.some.injEq] at hg
    subst hg
    refine ⟨by omega,x,rfl,?_⟩
    rw [ht.1,Nat.sub_self,List.drop_zero,List.take_append_of_le_length (by omega),List.take_of_length_le (by omega)]
    exact s1
   | succ i =>
    simp only [List.getElem?_cons_succ] at hg
    obtain ⟨q1,q2⟩:=hs i g hg
    refine ⟨by omega,?_⟩
    rw [List.drop_append,List.drop_eq_nil_of_le (by omega),List.nil_append,l1]
    rw [show g.offset - o - P.cellsOf f.type=g.offset - (o + P.cellsOf f.type) by omega]
    simpa using q2
  ·by_cases hj2:j < a1.length
   ·rw [List.getElem?_append_left hj2] at hj
    have:=r1 j a hj
    have e:((cs.drop f.offset).take (P.cellsOf f.type)).getD j Go.undef=cs.getD (o + j) Go.undef:=by
     rw [List.getD_eq_getElem?_getD,List.getD_eq_getElem?_getD,List.getElem?_take_of_lt (by omega),List.getElem?_drop,ht.1]
    rwa [e] at this
   ·rw [List.getElem?_append_right (by omega)] at hj
    have:=hr _ a hj
    rwa [show o + P.cellsOf f.type + (j - a1.length)=o + j by omega] at this
theorem AQ (hΓ:∀ b,Γ b=.imm){S:List TypeId}(hS:Zu5 P S=true):∀ (fuel:Nat) (t:TypeId) (cs:List Value) (x:DataW H×List MemPlace),S.contains t=true→DataW.trod enc P w base sp held fuel t cs=some x→(∀ y ∈ x.1.weights P t,y≤reachBytes) →
  ∃ az:List AV,BI P t az x.1∧az.length=cs.length∧∀ j a,az[j]? = some a→VX Γ w a (cs.getD j Go.undef)
 | 0,_,_,_,_,h,_=>by cases h
 | fuel + 1,t,cs,x,hc,h,hwt=>by
  have ho:=List.all_eq_true.1 hS t (by simpa using hc)
  cases hu:P.underlying t with
  | none=>simp [hu] at ho
  | some d =>
  have one:∀ (c:AV) (v:Value),VX Γ w c v→∀ j a,[c][j]? = some a→VX Γ w a ([v].getD j Go.undef):=fun c v hc j a hj=>by
   match j,hj with
   | 0,hj=>cases hj; exact hc
   | j + 1,hj=>simp at hj
  cases d <;> simp only [hu,Bool.false_eq_true] at ho
  case bool =>
   obtain ⟨b,rfl,rfl⟩:=DataW.trod_bool hu h
   exact ⟨[.bool b],.bool t b hu,rfl,one _ _ ⟨.bool b,rfl,rfl,fun k r e=>by cases e⟩⟩
  case int k =>
   obtain ⟨x,rfl,rfl,hw⟩:=DataW.trod_int hu h
   exact ⟨[.int k x],.int t k x hu hw,rfl,one _ _ ⟨.int k x,rfl,rfl,fun k r e=>by cases e⟩⟩
  case string =>
   obtain ⟨b,rfl,rfl,hb⟩:=DataW.trod_string hu h
   have e:b=⟨b.data.toList.toArray⟩:=by cases b; simp
   refine ⟨[.str b.data.toList],.str t _ hu (Zbg (hwt _ (by simp [DataW.weights]))),rfl,one _ _ ⟨?_,rfl,rfl,fun k r e=>by cases e⟩⟩
   have:Rep Γ w (.str b.data.toList) (.string ⟨b.data.toList.toArray⟩):=.str _
   rwa [← e] at this
  case slice e =>
   simp only [Bool.and_eq_true,decide_eq_true_eq] at ho
   rcases Zj4 hu h with ⟨rfl,rfl⟩ | ⟨A,len,cap,m,n',D,Pl,hn',rfl,hb,hl,hm,hmm,rfl,hi⟩
   ·exact ⟨[.lst (P.cellsOf e) []],.nil t e hu,rfl,one _ _ ⟨.lstNil _,rfl,rfl,fun k r e=>by cases e⟩⟩
   ·have hlm:len≤m:=by rw [hmm]; split <;> omega
    have hwe:∀ i,i < len→∀ y ∈ (D i).weights P e,y≤reachBytes:=fun i hi y hy=>by
     refine hwt y ?_
     simp only [DataW.weights,hu]
     exact List.mem_cons_of_mem _ (List.mem_append_left _ (ZkQ (List.mem_map.2 ⟨i,by simpa using hi,rfl⟩) hy))
    have hlr:len * P.bytesOf e≤140737488351232:=by
     refine Zbg (Nat.le_trans ?_ (hwt ((((List.range len).map D).length + ((List.range (m - len)).map fun j=>D (len + j)).length) * P.bytesOf e) ?_))
     ·simp only [List.length_map,List.length_range]
      exact Nat.mul_le_mul_right _ (Nat.le_add_right _ _)
     ·simp only [DataW.weights,hu]
      exact List.mem_cons_self ..
    have hrow:∀ i,∃ r:List AV,i < len→BI P e r (D i)∧r.length=P.cellsOf e∧∀ j a,r[j]? = some a→w.cell? ((A.add (i * P.cellsOf e)).add j)=some ((w.cell? ((A.add (i * P.cellsOf e)).add j)).getD Go.undef)∧VX Γ w a ((w.cell? ((A.add (i * P.cellsOf e)).add j)).getD Go.undef):=fun i=>by
     by_cases hil:i < len
     ·obtain ⟨cs',hc,ht⟩:=hi i (by omega)
      obtain ⟨_,hlen,hcell⟩:=World.cells?_some hc
      obtain ⟨r,s1,l1,r1⟩:=AQ hΓ hS n' e cs' _ ho.2 ht (hwe i hil)
      refine ⟨r,fun _=>⟨s1,by omega,fun j a hj=>?_⟩⟩
      have hjl:j < r.length:=(List.getElem?_eq_some_iff.1 hj).1
      have hc2:=hcell j (by omega)
      have hr:=r1 j a hj
      rw [List.getElem?_eq_getElem (by omega)] at hc2
      rw [List.getD_eq_getElem?_getD,List.getElem?_eq_getElem (by omega)] at hr
      rw [hc2]
      exact ⟨rfl,hr⟩
     ·exact ⟨[],fun h=>absurd h hil⟩
    have hf:∃ f:Nat→List AV,∀ i,i < len→BI P e (f i) (D i)∧(f i).length=P.cellsOf e∧∀ j a,(f i)[j]? = some a→w.cell? ((A.add (i * P.cellsOf e)).add j)=some ((w.cell? ((A.add (i * P.cellsOf e)).add j)).getD Go.undef)∧VX Γ w a ((w.cell? ((A.add (i * P.cellsOf e)).add j)).getD Go.undef) :=
     ⟨fun i=>(hrow i).choose,fun i=>(hrow i).choose_spec⟩
    obtain ⟨f,hf⟩:=hf
    have hget:∀ (i:Nat) (r:List AV),((List.range len).map f)[i]? = some r→i < len∧r=f i:=fun i r hr=>by
     rw [List.getElem?_map] at hr
     obtain ⟨i',hi',rfl⟩:=Option.map_eq_some_iff.1 hr
     have hlt:=(List.getElem?_eq_some_iff.1 hi').1
     rw [List.length_range] at hlt
     rw [List.getElem?_range hlt] at hi'
     obtain rfl:=Option.some.inj hi'
     exact ⟨hlt,rfl⟩
    have hlenf:((List.range len).map f).length=len:=by simp
    have hsl:=BI.slice (P := P) t e ((List.range len).map f) D ((List.range (m - len)).map fun j=>D (len + j)) hu (by simpa using hlr) (fun i r hr=>by obtain ⟨h1,rfl⟩:=hget i r hr; exact (hf i h1).1)
    rw [hlenf] at hsl
    refine ⟨[.lst (P.cellsOf e) ((List.range len).map f)],hsl,rfl,one _ _ ⟨?_,rfl,rfl,fun k r e=>by cases e⟩⟩
    ·by_cases hex:∃ (i j:Nat) (a:AV),i < len∧(f i)[j]? = some a
     ·obtain ⟨i0,j0,a0,hi0,hj0⟩:=hex
      have h0:∃ v,w.cell? A=some v:=by
       have hj0l:j0 < (f i0).length:=(List.getElem?_eq_some_iff.1 hj0).1
       have hpos:0 < P.cellsOf e:=by have:=(hf i0 hi0).2.1; omega
       have hz:=(hf 0 (by omega)).2.1
       have:=((hf 0 (by omega)).2.2 0 ((f 0)[0]'(by omega)) (List.getElem?_eq_getElem _)).1
       rw [Nat.zero_mul] at this
       have e1:(A.add 0).add 0=A:=by simp [Addr.add]
       rw [e1] at this
       exact ⟨_,this⟩
      have hsp:A.spot=none:=by
       obtain ⟨v,hv⟩:=h0
       unfold World.cell? at hv
       split at hv
       ·split at hv
        ·cases hv
        ·rename_i hs; simpa using hs
       ·cases hv
      obtain ⟨b,o,q⟩:=A
      simp only at hsp
      subst hsp
      have hadd:∀ i j,((⟨b,o,none⟩:Addr).add (i * P.cellsOf e)).add j=⟨b,o + (i * P.cellsOf e + j),none⟩:=fun i j=>by
       rw [Go.Deep.add_add]
       unfold Addr.add
       split
       ·rename_i h0; simp [h0]
       ·rfl
      have hll:len=((List.range len).map f).length:=by simp
      generalize hrows:(List.range len).map f=rows at *
      subst hll
      refine .lst _ rows b o cap (fun i j=>(w.cell? ⟨b,o + (i * P.cellsOf e + j),none⟩).getD Go.undef) hl (fun r hr=>?_) (fun i j r c hr hc=>?_) (fun i j r c hr hc=>?_)
      ·obtain ⟨i,hi⟩:=List.mem_iff_getElem?.1 hr
       obtain ⟨h1,rfl⟩:=hget i r hi
       exact (hf i h1).2.1
      ·obtain ⟨h1,rfl⟩:=hget i r hr
       have:=(hf i h1).2.2 j c hc
       rw [hadd] at this
       exact ⟨this.1,by show QO _ (Γ b); rw [hΓ]; trivial,this.2.2.2.1⟩
      ·obtain ⟨h1,rfl⟩:=hget i r hr
       have:=(hf i h1).2.2 j c hc
       rw [hadd] at this
       exact this.2.1
     ·have h0:len=0:=by
       rcases Nat.eq_zero_or_pos len with h0 | h0
       ·exact h0
       ·refine absurd ⟨0,0,(f 0)[0]'(by have:=(hf 0 h0).2.1; have:=ho.1.1; omega),h0,List.getElem?_eq_getElem _⟩ hex
      subst h0
      exact .lstE _ A cap
  case struct fs =>
   simp only [Bool.and_eq_true] at ho
   obtain ⟨xs,n',hn,rfl,hlen,hxl,hf⟩:=DataW.trod_struct hu h
   obtain ⟨_,az,l1,s1,r1⟩:=Zcc S n' cs (fun t cs x=>AQ hΓ hS n' t cs x) fs.toList xs 0 _ ho.1 hlen.symm ho.2 fun i f hf'=>by
    have hi':fs[i]? = some f:=by simpa using hf'
    have:=hf i f hi'
    have hlt:i < xs.length:=by rw [hxl]; exact (Array.getElem?_eq_some_iff.1 hi').1
    rw [List.getElem?_eq_getElem hlt] at this
    refine ⟨_,List.getElem?_eq_getElem hlt,this,fun y hy=>hwt y ?_⟩
    simp only [DataW.weights,hu]
    exact DataW.weights_mem_each (j := i) (t := f.type) (d := (xs[i]'hlt).1) (by simp [hi']) (by simp [List.getElem?_eq_getElem hlt]) y hy
   have hst:=BI.struct (P := P) t fs az (fun i=>((xs.map (·.1))[i]?).getD .nil) hu (by omega) fun i f hf'=>by
    obtain ⟨_,x,hx,hsx⟩:=s1 i f hf'
    simpa [hx] using hsx
   have hds:(List.range fs.size).map (fun i=>((xs.map (·.1))[i]?).getD .nil)=xs.map (·.1):=by
    refine List.ext_getElem? fun i=>?_
    rw [List.getElem?_map]
    by_cases hi:i < fs.size
    ·rw [List.getElem?_range hi,Option.map_some,List.getElem?_map,List.getElem?_eq_getElem (by omega)]; rfl
    ·rw [List.getElem?_eq_none (by simpa using hi),List.getElem?_eq_none (by simp; omega)]; rfl
   rw [hds] at hst
   exact ⟨az,hst,by omega,fun j a hj=>by simpa using r1 j a hj⟩
theorem argS_struct (hΓ:∀ b,Γ b=.imm){S:List TypeId}(hS:Zu5 P S=true){r:Reach}{b0:Nat}{t:TypeId}{fs:Array Field}{v:Value}{d:DataW H}{ps:List MemPlace}(hc:S.contains t=true)(hu:P.underlying t=some (.struct fs))(hv:Value.okWide P w r b0 t v)
  (h:DataW.Trod enc P w base sp held t v d ps) (hw:∀ y ∈ d.weights P t,y≤reachBytes):∃ az,Rep Γ w (.agg az) v∧BI P t az d:=by
 obtain ⟨cs,rfl,hsz⟩:=okWide_struct hu hv
 obtain ⟨fuel,hf⟩:=h
 obtain ⟨az,s1,l1,r1⟩:=AQ hΓ hS fuel t _ _ hc hf hw
 have l2:az.length=cs.size:=by rw [l1]; rfl
 refine ⟨az,.agg az cs l2.symm (fun j c hc=>(r1 j c hc).2.1) (fun j k r hc=>absurd rfl ((r1 j _ hc).2.2.2 k r)) (fun j c hc=>?_),s1⟩
 have:=(r1 j c hc).1
 have e:(Value.agg cs).cells.toList.getD j Go.undef=cs.getD j Go.undef:=by
  show cs.toList.getD j Go.undef=_
  simp [List.getD_eq_getElem?_getD,Array.getD_eq_getD_getElem?]
 rwa [e] at this
end Go.Proofs.YtgjcjbhhhlelnaaGreatDoor.Abs
end
section
namespace Go.Proofs.YtgjcjbhhhlelnaaGreatDoor
open Go Go.RowKit Go.Proofs.YtgjcjbhhhlelnaaGreatDoor.Abs
set_option maxRecDepth 100000
set_option maxHeartbeats 0
theorem Zhy {α:Type _}{l:List α}{n:Nat}(h:l.length=n + 1):∃ a r,l=a :: r∧r.length=n:=by
 cases l with
 | nil=>simp at h
 | cons a r=>exact ⟨a,r,rfl,by simpa using h⟩
theorem Qk {P:Program}{t:TypeId}{l M:List AV}{k n:Nat}(h:Of P t ((l.drop k).take (P.cellsOf t)))(hn:P.cellsOf t=n)(hm:(l.drop k).take n=M):Of P t M:=by rw [hn,hm] at h; exact h
theorem Zjq {α:Type _}{l:List α}{n:Nat}(h:l.length=n + 2):∃ a b r,l=a :: b :: r∧r.length=n:=by
 obtain ⟨a,r,rfl,h1⟩:=Zhy h
 obtain ⟨b,s,rfl,h2⟩:=Zhy h1
 exact ⟨a,b,s,rfl,h2⟩
theorem Zjr {α:Type _}{l:List α}{n:Nat}(h:l.length=n + 3):∃ a b c r,l=a :: b :: c :: r∧r.length=n:=by
 obtain ⟨a,b,r,rfl,h1⟩:=Zjq h
 obtain ⟨c,s,rfl,h2⟩:=Zhy h1
 exact ⟨a,b,c,s,rfl,h2⟩
theorem J6 {α:Type _}{l:List α}{n:Nat}(h:l.length=n + 4):∃ a b c d r,l=a :: b :: c :: d :: r∧r.length=n:=by
 obtain ⟨a,b,r,rfl,h1⟩:=Zjq h
 obtain ⟨c,d,s,rfl,h2⟩:=Zjq h1
 exact ⟨a,b,c,d,s,rfl,h2⟩
theorem ZoW {cs:List AV}{w k:Nat}{rows:List (List AV)}{r:List AV}(h1:AV.lst w rows ∈ cs)(h2:r ∈ rows)(h3:SizeOf.sizeOf cs≤k + 1):SizeOf.sizeOf r≤k:=by
 have a1:=List.sizeOf_lt_of_mem h1
 have a2:=List.sizeOf_lt_of_mem h2
 have a3:SizeOf.sizeOf (AV.lst w rows)=1 + SizeOf.sizeOf w + SizeOf.sizeOf rows:=by simp
 omega
theorem YG {α:Type}{Q:List AV→Prop}{row:α→List AV}{ok:α→Prop}:∀ {rows:List (List AV)},(∀ r ∈ rows,Q r→∃ x,r=row x∧ok x)→(∀ r ∈ rows,Q r)→∃ l:List α,rows=l.map row∧∀ x ∈ l,ok x
 | [],_,_=>⟨[],rfl,fun x h=>by cases h⟩
 | r :: rs,hq,h=>by
  obtain ⟨x,h1,h2⟩:=hq r (List.mem_cons_self ..) (h r (List.mem_cons_self ..))
  obtain ⟨l,h3,h4⟩:=YG (rows := rs) (fun y hy=>hq y (List.mem_cons_of_mem _ hy)) fun y hy=>h y (List.mem_cons_of_mem _ hy)
  exact ⟨x :: l,by rw [h1,h3]; rfl,fun y hy=>by
   rcases List.mem_cons.1 hy with rfl | hy
   ·exact h2
   ·exact h4 y hy⟩
def Zu7:List TypeId:=[25,9,22,65,62,53,116,114,3,54,136,132,189,134,107,105,26,55,143,141,56,147,57,58,94,91,194,92,239,237,104,101,102,4,59,153,60,185,183,200,63,77,75,109,100,23,36,73,70,71,159,167,165,217,99,211,241,258,250,252]
theorem ZrL:Zu5 Tryz.prog Zu7=true:=by kernel_rfl
theorem ZiW:Tryz.prog.bytesOf 3=8:=by kernel_rfl
theorem Zfo:Tryz.prog.cellsOf 3=1:=by kernel_rfl
theorem ZbQ:Tryz.prog.bytesOf 9=16:=by kernel_rfl
theorem Ee:Tryz.prog.cellsOf 9=1:=by kernel_rfl
theorem ZqI:Tryz.prog.bytesOf 36=24:=by kernel_rfl
theorem Zoj:Tryz.prog.cellsOf 36=3:=by kernel_rfl
theorem ZqJ:Tryz.prog.bytesOf 65=328:=by kernel_rfl
theorem Zok:Tryz.prog.cellsOf 65=14:=by kernel_rfl
theorem ZqK:Tryz.prog.bytesOf 77=56:=by kernel_rfl
theorem Zol:Tryz.prog.cellsOf 77=4:=by kernel_rfl
theorem ZqL:Tryz.prog.bytesOf 94=88:=by kernel_rfl
theorem Zom:Tryz.prog.cellsOf 94=4:=by kernel_rfl
theorem ZbO:Tryz.prog.bytesOf 104=56:=by kernel_rfl
theorem AO:Tryz.prog.cellsOf 104=4:=by kernel_rfl
theorem ZnW:Tryz.prog.bytesOf 109=256:=by kernel_rfl
theorem Zmr:Tryz.prog.cellsOf 109=20:=by kernel_rfl
theorem ZnX:Tryz.prog.bytesOf 116=32:=by kernel_rfl
theorem Zms:Tryz.prog.cellsOf 116=3:=by kernel_rfl
theorem ZnY:Tryz.prog.bytesOf 136=232:=by kernel_rfl
theorem Zmt:Tryz.prog.cellsOf 136=17:=by kernel_rfl
theorem ZnZ:Tryz.prog.bytesOf 143=32:=by kernel_rfl
theorem Zmu:Tryz.prog.cellsOf 143=3:=by kernel_rfl
theorem Zoa:Tryz.prog.bytesOf 147=32:=by kernel_rfl
theorem Zmv:Tryz.prog.cellsOf 147=3:=by kernel_rfl
theorem Zob:Tryz.prog.bytesOf 153=64:=by kernel_rfl
theorem Zmw:Tryz.prog.cellsOf 153=5:=by kernel_rfl
theorem Zoc:Tryz.prog.bytesOf 185=48:=by kernel_rfl
theorem Zmx:Tryz.prog.cellsOf 185=3:=by kernel_rfl
theorem Zod:Tryz.prog.bytesOf 189=16:=by kernel_rfl
theorem Zmy:Tryz.prog.cellsOf 189=2:=by kernel_rfl
theorem ZgU:Tryz.prog.bytesOf 194=24:=by kernel_rfl
theorem Ze1:Tryz.prog.cellsOf 194=2:=by kernel_rfl
theorem Zoe:Tryz.prog.bytesOf 200=40:=by kernel_rfl
theorem Zmz:Tryz.prog.cellsOf 200=3:=by kernel_rfl
theorem ZbP:Tryz.prog.bytesOf 239=312:=by kernel_rfl
theorem AP:Tryz.prog.cellsOf 239=21:=by kernel_rfl
theorem Zu4 {cs:List AV}(h:Of Tryz.prog 3 cs):∃ x:Int,cs=[.int .i64 x]∧(-9223372036854775808≤x∧x≤9223372036854775807):=h.toI64 Tryz.underlying3
theorem Zpt {cs:List AV}(h:Of Tryz.prog 9 cs):∃ x:List UInt8,cs=[.str x]∧x.length≤140737488351232:=h.toStr Tryz.underlying9
theorem ZrG {cs:List AV}(h:Of Tryz.prog 116 cs):∃ x,cs=ZcI x∧ZiQ x:=by
 obtain ⟨hl,hf⟩:=h.toStruct Tryz.underlying116
 rw [show Tryz.prog.cellsOf 116=3 from by kernel_rfl] at hl
 obtain ⟨c0,c1,c2,r0,rfl,hl0⟩:=Zjr hl
 obtain rfl:=List.eq_nil_of_length_eq_zero hl0
 have f0:Of Tryz.prog 9 [c0]:=Qk (hf 0 _ rfl) (n := 1) (by kernel_rfl) rfl
 obtain ⟨v0,q0,b0⟩:=f0.toStr Tryz.underlying9
 have f1:Of Tryz.prog 114 [c1]:=Qk (hf 1 _ rfl) (n := 1) (by kernel_rfl) rfl
 obtain ⟨v1,q1,b1⟩:=f1.toI64 Tryz.underlying114
 have f2:Of Tryz.prog 3 [c2]:=Qk (hf 2 _ rfl) (n := 1) (by kernel_rfl) rfl
 obtain ⟨v2,q2,b2⟩:=f2.toI64 Tryz.underlying3
 refine ⟨⟨v0,v1,v2⟩,?_,⟨b0,b1,b2⟩⟩
 have hc:([c0,c1,c2]:List AV)=[c0] ++ [c1] ++ [c2]:=rfl
 rw [hc]
 rw [q0,q1,q2]
 rfl
theorem Zps {cs:List AV}(h:Of Tryz.prog 189 cs):∃ x,cs=Fz x∧ZkS x:=by
 obtain ⟨hl,hf⟩:=h.toStruct Tryz.underlying189
 rw [show Tryz.prog.cellsOf 189=2 from by kernel_rfl] at hl
 obtain ⟨c0,c1,r0,rfl,hl0⟩:=Zjq hl
 obtain rfl:=List.eq_nil_of_length_eq_zero hl0
 have f0:Of Tryz.prog 3 [c0]:=Qk (hf 0 _ rfl) (n := 1) (by kernel_rfl) rfl
 obtain ⟨v0,q0,b0⟩:=f0.toI64 Tryz.underlying3
 have f1:Of Tryz.prog 3 [c1]:=Qk (hf 1 _ rfl) (n := 1) (by kernel_rfl) rfl
 obtain ⟨v1,q1,b1⟩:=f1.toI64 Tryz.underlying3
 refine ⟨⟨v0,v1⟩,?_,⟨b0,b1⟩⟩
 have hc:([c0,c1]:List AV)=[c0] ++ [c1]:=rfl
 rw [hc]
 rw [q0,q1]
 rfl
theorem ZfK {cs:List AV}(h:Of Tryz.prog 107 cs):∃ x,cs=Zgl x∧J8 x:=by
 obtain ⟨hl,hf⟩:=h.toStruct Tryz.underlying107
 rw [show Tryz.prog.cellsOf 107=6 from by kernel_rfl] at hl
 obtain ⟨c0,c1,c2,c3,r0,rfl,hl0⟩:=J6 hl
 obtain ⟨c4,c5,r4,rfl,hl4⟩:=Zjq hl0
 obtain rfl:=List.eq_nil_of_length_eq_zero hl4
 have f0:Of Tryz.prog 105 [c0]:=Qk (hf 0 _ rfl) (n := 1) (by kernel_rfl) rfl
 obtain ⟨v0,q0,b0⟩:=f0.toI64 Tryz.underlying105
 have f1:Of Tryz.prog 3 [c1]:=Qk (hf 1 _ rfl) (n := 1) (by kernel_rfl) rfl
 obtain ⟨v1,q1,b1⟩:=f1.toI64 Tryz.underlying3
 have f2:Of Tryz.prog 3 [c2]:=Qk (hf 2 _ rfl) (n := 1) (by kernel_rfl) rfl
 obtain ⟨v2,q2,b2⟩:=f2.toI64 Tryz.underlying3
 have f3:Of Tryz.prog 3 [c3]:=Qk (hf 3 _ rfl) (n := 1) (by kernel_rfl) rfl
 obtain ⟨v3,q3,b3⟩:=f3.toI64 Tryz.underlying3
 have f4:Of Tryz.prog 26 [c4]:=Qk (hf 4 _ rfl) (n := 1) (by kernel_rfl) rfl
 obtain ⟨w4,q4,b4,m4⟩:=f4.toSlice Tryz.underlying26
 rw [Zfo] at q4
 rw [ZiW] at b4
 obtain ⟨v4,e4,n4⟩:=YG (row := (fun x=>[.int .i64 x])) (fun r hr hq=>Zu4 hq) m4
 replace b4:v4.length * 8≤140737488351232:=by rw [e4,List.length_map] at b4; exact b4
 have f5:Of Tryz.prog 26 [c5]:=Qk (hf 5 _ rfl) (n := 1) (by kernel_rfl) rfl
 obtain ⟨w5,q5,b5,m5⟩:=f5.toSlice Tryz.underlying26
 rw [Zfo] at q5
 rw [ZiW] at b5
 obtain ⟨v5,e5,n5⟩:=YG (row := (fun x=>[.int .i64 x])) (fun r hr hq=>Zu4 hq) m5
 replace b5:v5.length * 8≤140737488351232:=by rw [e5,List.length_map] at b5; exact b5
 refine ⟨⟨v0,v1,v2,v3,v4,v5⟩,?_,⟨b0,b1,b2,b3,⟨b4,n4⟩,⟨b5,n5⟩⟩⟩
 have hc:([c0,c1,c2,c3,c4,c5]:List AV)=[c0] ++ [c1] ++ [c2] ++ [c3] ++ [c4] ++ [c5]:=rfl
 rw [hc]
 rw [q0,q1,q2,q3,q4,q5]
 rw [e4,e5]
 rfl
theorem ZrD {cs:List AV}(h:Of Tryz.prog 134 cs):∃ x,cs=ZeT x∧ZiO x:=by
 obtain ⟨hl,hf⟩:=h.toStruct Tryz.underlying134
 rw [show Tryz.prog.cellsOf 134=13 from by kernel_rfl] at hl
 obtain ⟨c0,c1,c2,c3,r0,rfl,hl0⟩:=J6 hl
 obtain ⟨c4,c5,c6,c7,r4,rfl,hl4⟩:=J6 hl0
 obtain ⟨c8,c9,c10,c11,r8,rfl,hl8⟩:=J6 hl4
 obtain ⟨c12,r12,rfl,hl12⟩:=Zhy hl8
 obtain rfl:=List.eq_nil_of_length_eq_zero hl12
 have f0:Of Tryz.prog 9 [c0]:=Qk (hf 0 _ rfl) (n := 1) (by kernel_rfl) rfl
 obtain ⟨v0,q0,b0⟩:=f0.toStr Tryz.underlying9
 have f1:Of Tryz.prog 107 [c1,c2,c3,c4,c5,c6]:=Qk (hf 1 _ rfl) (n := 6) (by kernel_rfl) rfl
 obtain ⟨v1,q1,b1⟩:=ZfK f1
 have f2:Of Tryz.prog 107 [c7,c8,c9,c10,c11,c12]:=Qk (hf 2 _ rfl) (n := 6) (by kernel_rfl) rfl
 obtain ⟨v2,q2,b2⟩:=ZfK f2
 refine ⟨⟨v0,v1,v2⟩,?_,⟨b0,b1,b2⟩⟩
 have hc:([c0,c1,c2,c3,c4,c5,c6,c7,c8,c9,c10,c11,c12]:List AV)=[c0] ++ [c1,c2,c3,c4,c5,c6] ++ [c7,c8,c9,c10,c11,c12]:=rfl
 rw [hc]
 rw [q0,q1,q2]
 unfold ZeT; simp only [List.append_assoc,List.cons_append,List.nil_append]
theorem Zc0 {cs:List AV}(h:Of Tryz.prog 136 cs):∃ x,cs=QZ x∧Wp x:=by
 obtain ⟨hl,hf⟩:=h.toStruct Tryz.underlying136
 rw [show Tryz.prog.cellsOf 136=17 from by kernel_rfl] at hl
 obtain ⟨c0,c1,c2,c3,r0,rfl,hl0⟩:=J6 hl
 obtain ⟨c4,c5,c6,c7,r4,rfl,hl4⟩:=J6 hl0
 obtain ⟨c8,c9,c10,c11,r8,rfl,hl8⟩:=J6 hl4
 obtain ⟨c12,c13,c14,c15,r12,rfl,hl12⟩:=J6 hl8
 obtain ⟨c16,r16,rfl,hl16⟩:=Zhy hl12
 obtain rfl:=List.eq_nil_of_length_eq_zero hl16
 have f0:Of Tryz.prog 9 [c0]:=Qk (hf 0 _ rfl) (n := 1) (by kernel_rfl) rfl
 obtain ⟨v0,q0,b0⟩:=f0.toStr Tryz.underlying9
 have f1:Of Tryz.prog 3 [c1]:=Qk (hf 1 _ rfl) (n := 1) (by kernel_rfl) rfl
 obtain ⟨v1,q1,b1⟩:=f1.toI64 Tryz.underlying3
 have f2:Of Tryz.prog 132 [c2]:=Qk (hf 2 _ rfl) (n := 1) (by kernel_rfl) rfl
 obtain ⟨w2,q2,b2,m2⟩:=f2.toSlice Tryz.underlying132
 rw [Zmy] at q2
 rw [Zod] at b2
 obtain ⟨v2,e2,n2⟩:=YG (row := Fz) (fun r hr hq=>Zps hq) m2
 replace b2:v2.length * 16≤140737488351232:=by rw [e2,List.length_map] at b2; exact b2
 have f3:Of Tryz.prog 3 [c3]:=Qk (hf 3 _ rfl) (n := 1) (by kernel_rfl) rfl
 obtain ⟨v3,q3,b3⟩:=f3.toI64 Tryz.underlying3
 have f4:Of Tryz.prog 134 [c4,c5,c6,c7,c8,c9,c10,c11,c12,c13,c14,c15,c16]:=Qk (hf 4 _ rfl) (n := 13) (by kernel_rfl) rfl
 obtain ⟨v4,q4,b4⟩:=ZrD f4
 refine ⟨⟨v0,v1,v2,v3,v4⟩,?_,⟨b0,b1,⟨b2,n2⟩,b3,b4⟩⟩
 have hc:([c0,c1,c2,c3,c4,c5,c6,c7,c8,c9,c10,c11,c12,c13,c14,c15,c16]:List AV)=[c0] ++ [c1] ++ [c2] ++ [c3] ++ [c4,c5,c6,c7,c8,c9,c10,c11,c12,c13,c14,c15,c16]:=rfl
 rw [hc]
 rw [q0,q1,q2,q3,q4]
 rw [e2]
 unfold QZ; simp only [List.append_assoc,List.cons_append,List.nil_append]
theorem Zh8 {cs:List AV}(h:Of Tryz.prog 143 cs):∃ x,cs=Gp x∧Zbp x:=by
 obtain ⟨hl,hf⟩:=h.toStruct Tryz.underlying143
 rw [show Tryz.prog.cellsOf 143=3 from by kernel_rfl] at hl
 obtain ⟨c0,c1,c2,r0,rfl,hl0⟩:=Zjr hl
 obtain rfl:=List.eq_nil_of_length_eq_zero hl0
 have f0:Of Tryz.prog 9 [c0]:=Qk (hf 0 _ rfl) (n := 1) (by kernel_rfl) rfl
 obtain ⟨v0,q0,b0⟩:=f0.toStr Tryz.underlying9
 have f1:Of Tryz.prog 3 [c1]:=Qk (hf 1 _ rfl) (n := 1) (by kernel_rfl) rfl
 obtain ⟨v1,q1,b1⟩:=f1.toI64 Tryz.underlying3
 have f2:Of Tryz.prog 141 [c2]:=Qk (hf 2 _ rfl) (n := 1) (by kernel_rfl) rfl
 obtain ⟨v2,q2,b2⟩:=f2.toI64 Tryz.underlying141
 refine ⟨⟨v0,v1,v2⟩,?_,⟨b0,b1,b2⟩⟩
 have hc:([c0,c1,c2]:List AV)=[c0] ++ [c1] ++ [c2]:=rfl
 rw [hc]
 rw [q0,q1,q2]
 rfl
theorem Zjw {cs:List AV}(h:Of Tryz.prog 147 cs):∃ x,cs=Ou x∧Zed x:=by
 obtain ⟨hl,hf⟩:=h.toStruct Tryz.underlying147
 rw [show Tryz.prog.cellsOf 147=3 from by kernel_rfl] at hl
 obtain ⟨c0,c1,c2,r0,rfl,hl0⟩:=Zjr hl
 obtain rfl:=List.eq_nil_of_length_eq_zero hl0
 have f0:Of Tryz.prog 9 [c0]:=Qk (hf 0 _ rfl) (n := 1) (by kernel_rfl) rfl
 obtain ⟨v0,q0,b0⟩:=f0.toStr Tryz.underlying9
 have f1:Of Tryz.prog 3 [c1]:=Qk (hf 1 _ rfl) (n := 1) (by kernel_rfl) rfl
 obtain ⟨v1,q1,b1⟩:=f1.toI64 Tryz.underlying3
 have f2:Of Tryz.prog 3 [c2]:=Qk (hf 2 _ rfl) (n := 1) (by kernel_rfl) rfl
 obtain ⟨v2,q2,b2⟩:=f2.toI64 Tryz.underlying3
 refine ⟨⟨v0,v1,v2⟩,?_,⟨b0,b1,b2⟩⟩
 have hc:([c0,c1,c2]:List AV)=[c0] ++ [c1] ++ [c2]:=rfl
 rw [hc]
 rw [q0,q1,q2]
 rfl
theorem Zl9 {cs:List AV}(h:Of Tryz.prog 194 cs):∃ x,cs=Zak x∧Zbo x:=by
 obtain ⟨hl,hf⟩:=h.toStruct Tryz.underlying194
 rw [show Tryz.prog.cellsOf 194=2 from by kernel_rfl] at hl
 obtain ⟨c0,c1,r0,rfl,hl0⟩:=Zjq hl
 obtain rfl:=List.eq_nil_of_length_eq_zero hl0
 have f0:Of Tryz.prog 9 [c0]:=Qk (hf 0 _ rfl) (n := 1) (by kernel_rfl) rfl
 obtain ⟨v0,q0,b0⟩:=f0.toStr Tryz.underlying9
 have f1:Of Tryz.prog 114 [c1]:=Qk (hf 1 _ rfl) (n := 1) (by kernel_rfl) rfl
 obtain ⟨v1,q1,b1⟩:=f1.toI64 Tryz.underlying114
 refine ⟨⟨v0,v1⟩,?_,⟨b0,b1⟩⟩
 have hc:([c0,c1]:List AV)=[c0] ++ [c1]:=rfl
 rw [hc]
 rw [q0,q1]
 rfl
theorem Nq:∀ (k:Nat) {cs:List AV},SizeOf.sizeOf cs≤k→Of Tryz.prog 104 cs→∃ x,cs=H8 x∧Yf x
 | 0,cs,hk,h=>by
  obtain ⟨hl,_⟩:=h.toStruct Tryz.underlying104
  rw [show Tryz.prog.cellsOf 104=4 from by kernel_rfl] at hl
  cases cs with
  | nil=>simp at hl
  | cons a r=>simp at hk
 | k + 1,cs,hk,h=>by
  obtain ⟨hl,hf⟩:=h.toStruct Tryz.underlying104
  rw [show Tryz.prog.cellsOf 104=4 from by kernel_rfl] at hl
  obtain ⟨c0,c1,c2,c3,r0,rfl,hl0⟩:=J6 hl
  obtain rfl:=List.eq_nil_of_length_eq_zero hl0
  have f0:Of Tryz.prog 101 [c0]:=Qk (hf 0 _ rfl) (n := 1) (by kernel_rfl) rfl
  obtain ⟨v0,q0,b0⟩:=f0.toI64 Tryz.underlying101
  have f1:Of Tryz.prog 9 [c1]:=Qk (hf 1 _ rfl) (n := 1) (by kernel_rfl) rfl
  obtain ⟨v1,q1,b1⟩:=f1.toStr Tryz.underlying9
  have f2:Of Tryz.prog 3 [c2]:=Qk (hf 2 _ rfl) (n := 1) (by kernel_rfl) rfl
  obtain ⟨v2,q2,b2⟩:=f2.toI64 Tryz.underlying3
  have f3:Of Tryz.prog 102 [c3]:=Qk (hf 3 _ rfl) (n := 1) (by kernel_rfl) rfl
  obtain ⟨w3,q3,b3,m3⟩:=f3.toSlice Tryz.underlying102
  rw [AO] at q3
  rw [ZbO] at b3
  obtain ⟨v3,e3,n3⟩:=YG (row := H8) (ok := Yf) (fun r hr hq=>Nq k (ZoW (w := 4) (rows := w3) (by simp [(List.cons.inj q3).1]) hr hk) hq) m3
  replace b3:v3.length * 56≤140737488351232:=by rw [e3,List.length_map] at b3; exact b3
  refine ⟨⟨v0,v1,v2,v3⟩,?_,⟨_,b0,b1,b2,b3,n3⟩⟩
  have hc:([c0,c1,c2,c3]:List AV)=[c0] ++ [c1] ++ [c2] ++ [c3]:=rfl
  rw [hc]
  rw [q0,q1,q2,q3]
  rw [e3]
  rw [ZlV]; rfl
theorem Zjz:∀ (k:Nat) {cs:List AV},SizeOf.sizeOf cs≤k→Of Tryz.prog 239 cs→∃ x,cs=F5 x∧YA x
 | 0,cs,hk,h=>by
  obtain ⟨hl,_⟩:=h.toStruct Tryz.underlying239
  rw [show Tryz.prog.cellsOf 239=21 from by kernel_rfl] at hl
  cases cs with
  | nil=>simp at hl
  | cons a r=>simp at hk
 | k + 1,cs,hk,h=>by
  obtain ⟨hl,hf⟩:=h.toStruct Tryz.underlying239
  rw [show Tryz.prog.cellsOf 239=21 from by kernel_rfl] at hl
  obtain ⟨c0,c1,c2,c3,r0,rfl,hl0⟩:=J6 hl
  obtain ⟨c4,c5,c6,c7,r4,rfl,hl4⟩:=J6 hl0
  obtain ⟨c8,c9,c10,c11,r8,rfl,hl8⟩:=J6 hl4
  obtain ⟨c12,c13,c14,c15,r12,rfl,hl12⟩:=J6 hl8
  obtain ⟨c16,c17,c18,c19,r16,rfl,hl16⟩:=J6 hl12
  obtain ⟨c20,r20,rfl,hl20⟩:=Zhy hl16
  obtain rfl:=List.eq_nil_of_length_eq_zero hl20
  have f0:Of Tryz.prog 237 [c0]:=Qk (hf 0 _ rfl) (n := 1) (by kernel_rfl) rfl
  obtain ⟨v0,q0,b0⟩:=f0.toI64 Tryz.underlying237
  have f1:Of Tryz.prog 9 [c1]:=Qk (hf 1 _ rfl) (n := 1) (by kernel_rfl) rfl
  obtain ⟨v1,q1,b1⟩:=f1.toStr Tryz.underlying9
  have f2:Of Tryz.prog 9 [c2]:=Qk (hf 2 _ rfl) (n := 1) (by kernel_rfl) rfl
  obtain ⟨v2,q2,b2⟩:=f2.toStr Tryz.underlying9
  have f3:Of Tryz.prog 104 [c3,c4,c5,c6]:=Qk (hf 3 _ rfl) (n := 4) (by kernel_rfl) rfl
  obtain ⟨v3,q3,b3⟩:=Nq _ (Nat.le_refl _) f3
  have f4:Of Tryz.prog 104 [c7,c8,c9,c10]:=Qk (hf 4 _ rfl) (n := 4) (by kernel_rfl) rfl
  obtain ⟨v4,q4,b4⟩:=Nq _ (Nat.le_refl _) f4
  have f5:Of Tryz.prog 102 [c11]:=Qk (hf 5 _ rfl) (n := 1) (by kernel_rfl) rfl
  obtain ⟨w5,q5,b5,m5⟩:=f5.toSlice Tryz.underlying102
  rw [AO] at q5
  rw [ZbO] at b5
  obtain ⟨v5,e5,n5⟩:=YG (row := H8) (ok := Yf) (fun r hr hq=>Nq _ (Nat.le_refl _) hq) m5
  replace b5:v5.length * 56≤140737488351232:=by rw [e5,List.length_map] at b5; exact b5
  have f6:Of Tryz.prog 107 [c12,c13,c14,c15,c16,c17]:=Qk (hf 6 _ rfl) (n := 6) (by kernel_rfl) rfl
  obtain ⟨v6,q6,b6⟩:=ZfK f6
  have f7:Of Tryz.prog 4 [c18]:=Qk (hf 7 _ rfl) (n := 1) (by kernel_rfl) rfl
  obtain ⟨v7,q7⟩:=f7.toBool Tryz.underlying4
  have b7:True:=trivial
  have f8:Of Tryz.prog 92 [c19]:=Qk (hf 8 _ rfl) (n := 1) (by kernel_rfl) rfl
  obtain ⟨w8,q8,b8,m8⟩:=f8.toSlice Tryz.underlying92
  rw [AP] at q8
  rw [ZbP] at b8
  obtain ⟨v8,e8,n8⟩:=YG (row := F5) (ok := YA) (fun r hr hq=>Zjz k (ZoW (w := 21) (rows := w8) (by simp [(List.cons.inj q8).1]) hr hk) hq) m8
  replace b8:v8.length * 312≤140737488351232:=by rw [e8,List.length_map] at b8; exact b8
  have f9:Of Tryz.prog 92 [c20]:=Qk (hf 9 _ rfl) (n := 1) (by kernel_rfl) rfl
  obtain ⟨w9,q9,b9,m9⟩:=f9.toSlice Tryz.underlying92
  rw [AP] at q9
  rw [ZbP] at b9
  obtain ⟨v9,e9,n9⟩:=YG (row := F5) (ok := YA) (fun r hr hq=>Zjz k (ZoW (w := 21) (rows := w9) (by simp [(List.cons.inj q9).1]) hr hk) hq) m9
  replace b9:v9.length * 312≤140737488351232:=by rw [e9,List.length_map] at b9; exact b9
  refine ⟨⟨v0,v1,v2,v3,v4,v5,v6,v7,v8,v9⟩,?_,⟨_,b0,b1,b2,b3,b4,b5,n5,b6,b7,b8,n8,b9,n9⟩⟩
  have hc:([c0,c1,c2,c3,c4,c5,c6,c7,c8,c9,c10,c11,c12,c13,c14,c15,c16,c17,c18,c19,c20]:List AV)=[c0] ++ [c1] ++ [c2] ++ [c3,c4,c5,c6] ++ [c7,c8,c9,c10] ++ [c11] ++ [c12,c13,c14,c15,c16,c17] ++ [c18] ++ [c19] ++ [c20]:=rfl
  rw [hc]
  rw [q0,q1,q2,q3,q4,q5,q6,q7,q8,q9]
  rw [e5,e8,e9]
  rw [ZlW]; simp only [List.append_assoc,List.cons_append,List.nil_append]
theorem ZmH {cs:List AV}(h:Of Tryz.prog 94 cs):∃ x,cs=BX x∧IX x:=by
 obtain ⟨hl,hf⟩:=h.toStruct Tryz.underlying94
 rw [show Tryz.prog.cellsOf 94=4 from by kernel_rfl] at hl
 obtain ⟨c0,c1,c2,c3,r0,rfl,hl0⟩:=J6 hl
 obtain rfl:=List.eq_nil_of_length_eq_zero hl0
 have f0:Of Tryz.prog 9 [c0]:=Qk (hf 0 _ rfl) (n := 1) (by kernel_rfl) rfl
 obtain ⟨v0,q0,b0⟩:=f0.toStr Tryz.underlying9
 have f1:Of Tryz.prog 91 [c1]:=Qk (hf 1 _ rfl) (n := 1) (by kernel_rfl) rfl
 obtain ⟨w1,q1,b1,m1⟩:=f1.toSlice Tryz.underlying91
 rw [Ze1] at q1
 rw [ZgU] at b1
 obtain ⟨v1,e1,n1⟩:=YG (row := Zak) (fun r hr hq=>Zl9 hq) m1
 replace b1:v1.length * 24≤140737488351232:=by rw [e1,List.length_map] at b1; exact b1
 have f2:Of Tryz.prog 91 [c2]:=Qk (hf 2 _ rfl) (n := 1) (by kernel_rfl) rfl
 obtain ⟨w2,q2,b2,m2⟩:=f2.toSlice Tryz.underlying91
 rw [Ze1] at q2
 rw [ZgU] at b2
 obtain ⟨v2,e2,n2⟩:=YG (row := Zak) (fun r hr hq=>Zl9 hq) m2
 replace b2:v2.length * 24≤140737488351232:=by rw [e2,List.length_map] at b2; exact b2
 have f3:Of Tryz.prog 92 [c3]:=Qk (hf 3 _ rfl) (n := 1) (by kernel_rfl) rfl
 obtain ⟨w3,q3,b3,m3⟩:=f3.toSlice Tryz.underlying92
 rw [AP] at q3
 rw [ZbP] at b3
 obtain ⟨v3,e3,n3⟩:=YG (row := F5) (ok := YA) (fun r hr hq=>Zjz _ (Nat.le_refl _) hq) m3
 replace b3:v3.length * 312≤140737488351232:=by rw [e3,List.length_map] at b3; exact b3
 refine ⟨⟨v0,v1,v2,v3⟩,?_,⟨b0,⟨b1,n1⟩,⟨b2,n2⟩,⟨b3,n3⟩⟩⟩
 have hc:([c0,c1,c2,c3]:List AV)=[c0] ++ [c1] ++ [c2] ++ [c3]:=rfl
 rw [hc]
 rw [q0,q1,q2,q3]
 rw [e1,e2,e3]
 rfl
theorem ZrF {cs:List AV}(h:Of Tryz.prog 153 cs):∃ x,cs=ZeU x∧P9 x:=by
 obtain ⟨hl,hf⟩:=h.toStruct Tryz.underlying153
 rw [show Tryz.prog.cellsOf 153=5 from by kernel_rfl] at hl
 obtain ⟨c0,c1,c2,c3,r0,rfl,hl0⟩:=J6 hl
 obtain ⟨c4,r4,rfl,hl4⟩:=Zhy hl0
 obtain rfl:=List.eq_nil_of_length_eq_zero hl4
 have f0:Of Tryz.prog 9 [c0]:=Qk (hf 0 _ rfl) (n := 1) (by kernel_rfl) rfl
 obtain ⟨v0,q0,b0⟩:=f0.toStr Tryz.underlying9
 have f1:Of Tryz.prog 26 [c1]:=Qk (hf 1 _ rfl) (n := 1) (by kernel_rfl) rfl
 obtain ⟨w1,q1,b1,m1⟩:=f1.toSlice Tryz.underlying26
 rw [Zfo] at q1
 rw [ZiW] at b1
 obtain ⟨v1,e1,n1⟩:=YG (row := (fun x=>[.int .i64 x])) (fun r hr hq=>Zu4 hq) m1
 replace b1:v1.length * 8≤140737488351232:=by rw [e1,List.length_map] at b1; exact b1
 have f2:Of Tryz.prog 3 [c2]:=Qk (hf 2 _ rfl) (n := 1) (by kernel_rfl) rfl
 obtain ⟨v2,q2,b2⟩:=f2.toI64 Tryz.underlying3
 have f3:Of Tryz.prog 3 [c3]:=Qk (hf 3 _ rfl) (n := 1) (by kernel_rfl) rfl
 obtain ⟨v3,q3,b3⟩:=f3.toI64 Tryz.underlying3
 have f4:Of Tryz.prog 3 [c4]:=Qk (hf 4 _ rfl) (n := 1) (by kernel_rfl) rfl
 obtain ⟨v4,q4,b4⟩:=f4.toI64 Tryz.underlying3
 refine ⟨⟨v0,v1,v2,v3,v4⟩,?_,⟨b0,⟨b1,n1⟩,b2,b3,b4⟩⟩
 have hc:([c0,c1,c2,c3,c4]:List AV)=[c0] ++ [c1] ++ [c2] ++ [c3] ++ [c4]:=rfl
 rw [hc]
 rw [q0,q1,q2,q3,q4]
 rw [e1]
 rfl
theorem Zu3 {cs:List AV}(h:Of Tryz.prog 200 cs):∃ x,cs=Znk x∧ZsD x:=by
 obtain ⟨hl,hf⟩:=h.toStruct Tryz.underlying200
 rw [show Tryz.prog.cellsOf 200=3 from by kernel_rfl] at hl
 obtain ⟨c0,c1,c2,r0,rfl,hl0⟩:=Zjr hl
 obtain rfl:=List.eq_nil_of_length_eq_zero hl0
 have f0:Of Tryz.prog 3 [c0]:=Qk (hf 0 _ rfl) (n := 1) (by kernel_rfl) rfl
 obtain ⟨v0,q0,b0⟩:=f0.toI64 Tryz.underlying3
 have f1:Of Tryz.prog 9 [c1]:=Qk (hf 1 _ rfl) (n := 1) (by kernel_rfl) rfl
 obtain ⟨v1,q1,b1⟩:=f1.toStr Tryz.underlying9
 have f2:Of Tryz.prog 9 [c2]:=Qk (hf 2 _ rfl) (n := 1) (by kernel_rfl) rfl
 obtain ⟨v2,q2,b2⟩:=f2.toStr Tryz.underlying9
 refine ⟨⟨v0,v1,v2⟩,?_,⟨b0,b1,b2⟩⟩
 have hc:([c0,c1,c2]:List AV)=[c0] ++ [c1] ++ [c2]:=rfl
 rw [hc]
 rw [q0,q1,q2]
 rfl
theorem Zxh {cs:List AV}(h:Of Tryz.prog 185 cs):∃ x,cs=ZvN x∧ZnF x:=by
 obtain ⟨hl,hf⟩:=h.toStruct Tryz.underlying185
 rw [show Tryz.prog.cellsOf 185=3 from by kernel_rfl] at hl
 obtain ⟨c0,c1,c2,r0,rfl,hl0⟩:=Zjr hl
 obtain rfl:=List.eq_nil_of_length_eq_zero hl0
 have f0:Of Tryz.prog 9 [c0]:=Qk (hf 0 _ rfl) (n := 1) (by kernel_rfl) rfl
 obtain ⟨v0,q0,b0⟩:=f0.toStr Tryz.underlying9
 have f1:Of Tryz.prog 183 [c1]:=Qk (hf 1 _ rfl) (n := 1) (by kernel_rfl) rfl
 obtain ⟨w1,q1,b1,m1⟩:=f1.toSlice Tryz.underlying183
 rw [Zmz] at q1
 rw [Zoe] at b1
 obtain ⟨v1,e1,n1⟩:=YG (row := Znk) (fun r hr hq=>Zu3 hq) m1
 replace b1:v1.length * 40≤140737488351232:=by rw [e1,List.length_map] at b1; exact b1
 have f2:Of Tryz.prog 3 [c2]:=Qk (hf 2 _ rfl) (n := 1) (by kernel_rfl) rfl
 obtain ⟨v2,q2,b2⟩:=f2.toI64 Tryz.underlying3
 refine ⟨⟨v0,v1,v2⟩,?_,⟨b0,⟨b1,n1⟩,b2⟩⟩
 have hc:([c0,c1,c2]:List AV)=[c0] ++ [c1] ++ [c2]:=rfl
 rw [hc]
 rw [q0,q1,q2]
 rw [e1]
 rfl
theorem Zjy {cs:List AV}(h:Of Tryz.prog 62 cs):∃ x,cs=Ov x∧ZH x:=by
 obtain ⟨hl,hf⟩:=h.toStruct Tryz.underlying62
 rw [show Tryz.prog.cellsOf 62=13 from by kernel_rfl] at hl
 obtain ⟨c0,c1,c2,c3,r0,rfl,hl0⟩:=J6 hl
 obtain ⟨c4,c5,c6,c7,r4,rfl,hl4⟩:=J6 hl0
 obtain ⟨c8,c9,c10,c11,r8,rfl,hl8⟩:=J6 hl4
 obtain ⟨c12,r12,rfl,hl12⟩:=Zhy hl8
 obtain rfl:=List.eq_nil_of_length_eq_zero hl12
 have f0:Of Tryz.prog 9 [c0]:=Qk (hf 0 _ rfl) (n := 1) (by kernel_rfl) rfl
 obtain ⟨v0,q0,b0⟩:=f0.toStr Tryz.underlying9
 have f1:Of Tryz.prog 53 [c1]:=Qk (hf 1 _ rfl) (n := 1) (by kernel_rfl) rfl
 obtain ⟨w1,q1,b1,m1⟩:=f1.toSlice Tryz.underlying53
 rw [Zms] at q1
 rw [ZnX] at b1
 obtain ⟨v1,e1,n1⟩:=YG (row := ZcI) (fun r hr hq=>ZrG hq) m1
 replace b1:v1.length * 32≤140737488351232:=by rw [e1,List.length_map] at b1; exact b1
 have f2:Of Tryz.prog 54 [c2]:=Qk (hf 2 _ rfl) (n := 1) (by kernel_rfl) rfl
 obtain ⟨w2,q2,b2,m2⟩:=f2.toSlice Tryz.underlying54
 rw [Zmt] at q2
 rw [ZnY] at b2
 obtain ⟨v2,e2,n2⟩:=YG (row := QZ) (fun r hr hq=>Zc0 hq) m2
 replace b2:v2.length * 232≤140737488351232:=by rw [e2,List.length_map] at b2; exact b2
 have f3:Of Tryz.prog 55 [c3]:=Qk (hf 3 _ rfl) (n := 1) (by kernel_rfl) rfl
 obtain ⟨w3,q3,b3,m3⟩:=f3.toSlice Tryz.underlying55
 rw [Zmu] at q3
 rw [ZnZ] at b3
 obtain ⟨v3,e3,n3⟩:=YG (row := Gp) (fun r hr hq=>Zh8 hq) m3
 replace b3:v3.length * 32≤140737488351232:=by rw [e3,List.length_map] at b3; exact b3
 have f4:Of Tryz.prog 56 [c4]:=Qk (hf 4 _ rfl) (n := 1) (by kernel_rfl) rfl
 obtain ⟨w4,q4,b4,m4⟩:=f4.toSlice Tryz.underlying56
 rw [Zmv] at q4
 rw [Zoa] at b4
 obtain ⟨v4,e4,n4⟩:=YG (row := Ou) (fun r hr hq=>Zjw hq) m4
 replace b4:v4.length * 32≤140737488351232:=by rw [e4,List.length_map] at b4; exact b4
 have f5:Of Tryz.prog 57 [c5]:=Qk (hf 5 _ rfl) (n := 1) (by kernel_rfl) rfl
 obtain ⟨w5,q5,b5,m5⟩:=f5.toSlice Tryz.underlying57
 rw [Ee] at q5
 rw [ZbQ] at b5
 obtain ⟨v5,e5,n5⟩:=YG (row := (fun x=>[.str x])) (fun r hr hq=>Zpt hq) m5
 replace b5:v5.length * 16≤140737488351232:=by rw [e5,List.length_map] at b5; exact b5
 have f6:Of Tryz.prog 57 [c6]:=Qk (hf 6 _ rfl) (n := 1) (by kernel_rfl) rfl
 obtain ⟨w6,q6,b6,m6⟩:=f6.toSlice Tryz.underlying57
 rw [Ee] at q6
 rw [ZbQ] at b6
 obtain ⟨v6,e6,n6⟩:=YG (row := (fun x=>[.str x])) (fun r hr hq=>Zpt hq) m6
 replace b6:v6.length * 16≤140737488351232:=by rw [e6,List.length_map] at b6; exact b6
 have f7:Of Tryz.prog 57 [c7]:=Qk (hf 7 _ rfl) (n := 1) (by kernel_rfl) rfl
 obtain ⟨w7,q7,b7,m7⟩:=f7.toSlice Tryz.underlying57
 rw [Ee] at q7
 rw [ZbQ] at b7
 obtain ⟨v7,e7,n7⟩:=YG (row := (fun x=>[.str x])) (fun r hr hq=>Zpt hq) m7
 replace b7:v7.length * 16≤140737488351232:=by rw [e7,List.length_map] at b7; exact b7
 have f8:Of Tryz.prog 57 [c8]:=Qk (hf 8 _ rfl) (n := 1) (by kernel_rfl) rfl
 obtain ⟨w8,q8,b8,m8⟩:=f8.toSlice Tryz.underlying57
 rw [Ee] at q8
 rw [ZbQ] at b8
 obtain ⟨v8,e8,n8⟩:=YG (row := (fun x=>[.str x])) (fun r hr hq=>Zpt hq) m8
 replace b8:v8.length * 16≤140737488351232:=by rw [e8,List.length_map] at b8; exact b8
 have f9:Of Tryz.prog 57 [c9]:=Qk (hf 9 _ rfl) (n := 1) (by kernel_rfl) rfl
 obtain ⟨w9,q9,b9,m9⟩:=f9.toSlice Tryz.underlying57
 rw [Ee] at q9
 rw [ZbQ] at b9
 obtain ⟨v9,e9,n9⟩:=YG (row := (fun x=>[.str x])) (fun r hr hq=>Zpt hq) m9
 replace b9:v9.length * 16≤140737488351232:=by rw [e9,List.length_map] at b9; exact b9
 have f10:Of Tryz.prog 58 [c10]:=Qk (hf 10 _ rfl) (n := 1) (by kernel_rfl) rfl
 obtain ⟨w10,q10,b10,m10⟩:=f10.toSlice Tryz.underlying58
 rw [Zom] at q10
 rw [ZqL] at b10
 obtain ⟨v10,e10,n10⟩:=YG (row := BX) (fun r hr hq=>ZmH hq) m10
 replace b10:v10.length * 88≤140737488351232:=by rw [e10,List.length_map] at b10; exact b10
 have f11:Of Tryz.prog 59 [c11]:=Qk (hf 11 _ rfl) (n := 1) (by kernel_rfl) rfl
 obtain ⟨w11,q11,b11,m11⟩:=f11.toSlice Tryz.underlying59
 rw [Zmw] at q11
 rw [Zob] at b11
 obtain ⟨v11,e11,n11⟩:=YG (row := ZeU) (fun r hr hq=>ZrF hq) m11
 replace b11:v11.length * 64≤140737488351232:=by rw [e11,List.length_map] at b11; exact b11
 have f12:Of Tryz.prog 60 [c12]:=Qk (hf 12 _ rfl) (n := 1) (by kernel_rfl) rfl
 obtain ⟨w12,q12,b12,m12⟩:=f12.toSlice Tryz.underlying60
 rw [Zmx] at q12
 rw [Zoc] at b12
 obtain ⟨v12,e12,n12⟩:=YG (row := ZvN) (fun r hr hq=>Zxh hq) m12
 replace b12:v12.length * 48≤140737488351232:=by rw [e12,List.length_map] at b12; exact b12
 refine ⟨⟨v0,v1,v2,v3,v4,v5,v6,v7,v8,v9,v10,v11,v12⟩,?_,⟨b0,⟨b1,n1⟩,⟨b2,n2⟩,⟨b3,n3⟩,⟨b4,n4⟩,⟨b5,n5⟩,⟨b6,n6⟩,⟨b7,n7⟩,⟨b8,n8⟩,⟨b9,n9⟩,⟨b10,n10⟩,⟨b11,n11⟩,⟨b12,n12⟩⟩⟩
 have hc:([c0,c1,c2,c3,c4,c5,c6,c7,c8,c9,c10,c11,c12]:List AV)=[c0] ++ [c1] ++ [c2] ++ [c3] ++ [c4] ++ [c5] ++ [c6] ++ [c7] ++ [c8] ++ [c9] ++ [c10] ++ [c11] ++ [c12]:=rfl
 rw [hc]
 rw [q0,q1,q2,q3,q4,q5,q6,q7,q8,q9,q10,q11,q12]
 rw [e1,e2,e3,e4,e5,e6,e7,e8,e9,e10,e11,e12]
 rfl
theorem ZrE {cs:List AV}(h:Of Tryz.prog 109 cs):∃ x,cs=ZcG x∧II x:=by
 obtain ⟨hl,hf⟩:=h.toStruct Tryz.underlying109
 rw [show Tryz.prog.cellsOf 109=20 from by kernel_rfl] at hl
 obtain ⟨c0,c1,c2,c3,r0,rfl,hl0⟩:=J6 hl
 obtain ⟨c4,c5,c6,c7,r4,rfl,hl4⟩:=J6 hl0
 obtain ⟨c8,c9,c10,c11,r8,rfl,hl8⟩:=J6 hl4
 obtain ⟨c12,c13,c14,c15,r12,rfl,hl12⟩:=J6 hl8
 obtain ⟨c16,c17,c18,c19,r16,rfl,hl16⟩:=J6 hl12
 obtain rfl:=List.eq_nil_of_length_eq_zero hl16
 have f0:Of Tryz.prog 100 [c0]:=Qk (hf 0 _ rfl) (n := 1) (by kernel_rfl) rfl
 obtain ⟨v0,q0,b0⟩:=f0.toI64 Tryz.underlying100
 have f1:Of Tryz.prog 3 [c1]:=Qk (hf 1 _ rfl) (n := 1) (by kernel_rfl) rfl
 obtain ⟨v1,q1,b1⟩:=f1.toI64 Tryz.underlying3
 have f2:Of Tryz.prog 3 [c2]:=Qk (hf 2 _ rfl) (n := 1) (by kernel_rfl) rfl
 obtain ⟨v2,q2,b2⟩:=f2.toI64 Tryz.underlying3
 have f3:Of Tryz.prog 3 [c3]:=Qk (hf 3 _ rfl) (n := 1) (by kernel_rfl) rfl
 obtain ⟨v3,q3,b3⟩:=f3.toI64 Tryz.underlying3
 have f4:Of Tryz.prog 104 [c4,c5,c6,c7]:=Qk (hf 4 _ rfl) (n := 4) (by kernel_rfl) rfl
 obtain ⟨v4,q4,b4⟩:=Nq _ (Nat.le_refl _) f4
 have f5:Of Tryz.prog 104 [c8,c9,c10,c11]:=Qk (hf 5 _ rfl) (n := 4) (by kernel_rfl) rfl
 obtain ⟨v5,q5,b5⟩:=Nq _ (Nat.le_refl _) f5
 have f6:Of Tryz.prog 102 [c12]:=Qk (hf 6 _ rfl) (n := 1) (by kernel_rfl) rfl
 obtain ⟨w6,q6,b6,m6⟩:=f6.toSlice Tryz.underlying102
 rw [AO] at q6
 rw [ZbO] at b6
 obtain ⟨v6,e6,n6⟩:=YG (row := H8) (ok := Yf) (fun r hr hq=>Nq _ (Nat.le_refl _) hq) m6
 replace b6:v6.length * 56≤140737488351232:=by rw [e6,List.length_map] at b6; exact b6
 have f7:Of Tryz.prog 107 [c13,c14,c15,c16,c17,c18]:=Qk (hf 7 _ rfl) (n := 6) (by kernel_rfl) rfl
 obtain ⟨v7,q7,b7⟩:=ZfK f7
 have f8:Of Tryz.prog 4 [c19]:=Qk (hf 8 _ rfl) (n := 1) (by kernel_rfl) rfl
 obtain ⟨v8,q8⟩:=f8.toBool Tryz.underlying4
 have b8:True:=trivial
 refine ⟨⟨v0,v1,v2,v3,v4,v5,v6,v7,v8⟩,?_,⟨b0,b1,b2,b3,b4,b5,⟨b6,n6⟩,b7,b8⟩⟩
 have hc:([c0,c1,c2,c3,c4,c5,c6,c7,c8,c9,c10,c11,c12,c13,c14,c15,c16,c17,c18,c19]:List AV)=[c0] ++ [c1] ++ [c2] ++ [c3] ++ [c4,c5,c6,c7] ++ [c8,c9,c10,c11] ++ [c12] ++ [c13,c14,c15,c16,c17,c18] ++ [c19]:=rfl
 rw [hc]
 rw [q0,q1,q2,q3,q4,q5,q6,q7,q8]
 rw [e6]
 unfold ZcG; simp only [List.append_assoc,List.cons_append,List.nil_append]
theorem Zu2 {cs:List AV}(h:Of Tryz.prog 77 cs):∃ x,cs=Zkq x∧ZnE x:=by
 obtain ⟨hl,hf⟩:=h.toStruct Tryz.underlying77
 rw [show Tryz.prog.cellsOf 77=4 from by kernel_rfl] at hl
 obtain ⟨c0,c1,c2,c3,r0,rfl,hl0⟩:=J6 hl
 obtain rfl:=List.eq_nil_of_length_eq_zero hl0
 have f0:Of Tryz.prog 9 [c0]:=Qk (hf 0 _ rfl) (n := 1) (by kernel_rfl) rfl
 obtain ⟨v0,q0,b0⟩:=f0.toStr Tryz.underlying9
 have f1:Of Tryz.prog 3 [c1]:=Qk (hf 1 _ rfl) (n := 1) (by kernel_rfl) rfl
 obtain ⟨v1,q1,b1⟩:=f1.toI64 Tryz.underlying3
 have f2:Of Tryz.prog 3 [c2]:=Qk (hf 2 _ rfl) (n := 1) (by kernel_rfl) rfl
 obtain ⟨v2,q2,b2⟩:=f2.toI64 Tryz.underlying3
 have f3:Of Tryz.prog 75 [c3]:=Qk (hf 3 _ rfl) (n := 1) (by kernel_rfl) rfl
 obtain ⟨w3,q3,b3,m3⟩:=f3.toSlice Tryz.underlying75
 rw [Zmr] at q3
 rw [ZnW] at b3
 obtain ⟨v3,e3,n3⟩:=YG (row := ZcG) (fun r hr hq=>ZrE hq) m3
 replace b3:v3.length * 256≤140737488351232:=by rw [e3,List.length_map] at b3; exact b3
 refine ⟨⟨v0,v1,v2,v3⟩,?_,⟨b0,b1,b2,⟨b3,n3⟩⟩⟩
 have hc:([c0,c1,c2,c3]:List AV)=[c0] ++ [c1] ++ [c2] ++ [c3]:=rfl
 rw [hc]
 rw [q0,q1,q2,q3]
 rw [e3]
 rfl
theorem Zjx {cs:List AV}(h:Of Tryz.prog 65 cs):∃ x,cs=GV x∧Zee x:=by
 obtain ⟨hl,hf⟩:=h.toStruct Tryz.underlying65
 rw [show Tryz.prog.cellsOf 65=14 from by kernel_rfl] at hl
 obtain ⟨c0,c1,c2,c3,r0,rfl,hl0⟩:=J6 hl
 obtain ⟨c4,c5,c6,c7,r4,rfl,hl4⟩:=J6 hl0
 obtain ⟨c8,c9,c10,c11,r8,rfl,hl8⟩:=J6 hl4
 obtain ⟨c12,c13,r12,rfl,hl12⟩:=Zjq hl8
 obtain rfl:=List.eq_nil_of_length_eq_zero hl12
 have f0:Of Tryz.prog 62 [c0,c1,c2,c3,c4,c5,c6,c7,c8,c9,c10,c11,c12]:=Qk (hf 0 _ rfl) (n := 13) (by kernel_rfl) rfl
 obtain ⟨v0,q0,b0⟩:=Zjy f0
 have f1:Of Tryz.prog 63 [c13]:=Qk (hf 1 _ rfl) (n := 1) (by kernel_rfl) rfl
 obtain ⟨w1,q1,b1,m1⟩:=f1.toSlice Tryz.underlying63
 rw [Zol] at q1
 rw [ZqK] at b1
 obtain ⟨v1,e1,n1⟩:=YG (row := Zkq) (fun r hr hq=>Zu2 hq) m1
 replace b1:v1.length * 56≤140737488351232:=by rw [e1,List.length_map] at b1; exact b1
 refine ⟨⟨v0,v1⟩,?_,⟨b0,⟨b1,n1⟩⟩⟩
 have hc:([c0,c1,c2,c3,c4,c5,c6,c7,c8,c9,c10,c11,c12,c13]:List AV)=[c0,c1,c2,c3,c4,c5,c6,c7,c8,c9,c10,c11,c12] ++ [c13]:=rfl
 rw [hc]
 rw [q0,q1]
 rw [e1]
 unfold GV; simp only [List.append_assoc,List.cons_append,List.nil_append]
theorem Zxg {cs:List AV}(h:Of Tryz.prog 36 cs):∃ x,cs=ZeR x∧ZvU x:=by
 obtain ⟨hl,hf⟩:=h.toStruct Tryz.underlying36
 rw [show Tryz.prog.cellsOf 36=3 from by kernel_rfl] at hl
 obtain ⟨c0,c1,c2,r0,rfl,hl0⟩:=Zjr hl
 obtain rfl:=List.eq_nil_of_length_eq_zero hl0
 have f0:Of Tryz.prog 3 [c0]:=Qk (hf 0 _ rfl) (n := 1) (by kernel_rfl) rfl
 obtain ⟨v0,q0,b0⟩:=f0.toI64 Tryz.underlying3
 have f1:Of Tryz.prog 3 [c1]:=Qk (hf 1 _ rfl) (n := 1) (by kernel_rfl) rfl
 obtain ⟨v1,q1,b1⟩:=f1.toI64 Tryz.underlying3
 have f2:Of Tryz.prog 3 [c2]:=Qk (hf 2 _ rfl) (n := 1) (by kernel_rfl) rfl
 obtain ⟨v2,q2,b2⟩:=f2.toI64 Tryz.underlying3
 refine ⟨⟨v0,v1,v2⟩,?_,⟨b0,b1,b2⟩⟩
 have hc:([c0,c1,c2]:List AV)=[c0] ++ [c1] ++ [c2]:=rfl
 rw [hc]
 rw [q0,q1,q2]
 rfl
theorem ZmG {cs:List AV}(h:Of Tryz.prog 25 cs):∃ x,cs=Xv x∧X5 x:=by
 obtain ⟨hl,hf⟩:=h.toStruct Tryz.underlying25
 rw [show Tryz.prog.cellsOf 25=3 from by kernel_rfl] at hl
 obtain ⟨c0,c1,c2,r0,rfl,hl0⟩:=Zjr hl
 obtain rfl:=List.eq_nil_of_length_eq_zero hl0
 have f0:Of Tryz.prog 9 [c0]:=Qk (hf 0 _ rfl) (n := 1) (by kernel_rfl) rfl
 obtain ⟨v0,q0,b0⟩:=f0.toStr Tryz.underlying9
 have f1:Of Tryz.prog 22 [c1]:=Qk (hf 1 _ rfl) (n := 1) (by kernel_rfl) rfl
 obtain ⟨w1,q1,b1,m1⟩:=f1.toSlice Tryz.underlying22
 rw [Zok] at q1
 rw [ZqJ] at b1
 obtain ⟨v1,e1,n1⟩:=YG (row := GV) (fun r hr hq=>Zjx hq) m1
 replace b1:v1.length * 328≤140737488351232:=by rw [e1,List.length_map] at b1; exact b1
 have f2:Of Tryz.prog 23 [c2]:=Qk (hf 2 _ rfl) (n := 1) (by kernel_rfl) rfl
 obtain ⟨w2,q2,b2,m2⟩:=f2.toSlice Tryz.underlying23
 rw [Zoj] at q2
 rw [ZqI] at b2
 obtain ⟨v2,e2,n2⟩:=YG (row := ZeR) (fun r hr hq=>Zxg hq) m2
 replace b2:v2.length * 24≤140737488351232:=by rw [e2,List.length_map] at b2; exact b2
 refine ⟨⟨v0,v1,v2⟩,?_,⟨b0,⟨b1,n1⟩,⟨b2,n2⟩⟩⟩
 have hc:([c0,c1,c2]:List AV)=[c0] ++ [c1] ++ [c2]:=rfl
 rw [hc]
 rw [q0,q1,q2]
 rw [e1,e2]
 rfl
end Go.Proofs.YtgjcjbhhhlelnaaGreatDoor
end
section
namespace Go.Proofs.YtgjcjbhhhlelnaaGreatDoor.Abs
open Go Go.RowKit Go.Shelf
def ZoE (f:FuncId)(k bytes:Nat)(g:FuncId)(args:List AV)(hp:List Zm):Option (AV×List Zm×Eff) :=
 if g=f then
  match args with
  | [.own k' [],.int .i64 n]=>if k'=k∧0≤n∧n.toNat * bytes≤140737488355328∧n.toNat≤140737488355328 then some (.own k [],hp,none) else none
  | _=>none
 else none
theorem ZoF {P:Program}{ρ:Ren}{W0:World}(L:Lays8.n4 P ρ){i0:TypeInfo}{z:Value}(hi0:P.info? (ρ.t 25)=some i0)(hz0:i0.zero=some z)(hzs:z.cells.size=i0.size)(hs0:0 < i0.size) :
  Y8 P W0 (ZoE (ρ.f 4) i0.size i0.bytes):=by
 intro g args hp v hp' e hc Γ w xs hr ht hs hx
 unfold ZoE at hc
 split at hc
 case isFalse=>cases hc
 rename_i hgf
 subst hgf
 split at hc <;> first | (cases hc; done) | skip
 rename_i k' n
 split at hc <;> first | (cases hc; done) | skip
 rename_i hh
 obtain ⟨rfl,hn0,hnb,hn47⟩:=hh
 cases hc
 have hI:Inv ⟨W0,Γ,w⟩ ⟨[.own i0.size []],hp,none,hp.length⟩ Γ { tmps := #[xs.getD 0 Go.undef],defers := [] } w:=by
  refine ⟨rfl,⟨rfl,fun t y hy=>?_,fun t y hy=>?_⟩,hr,.refl _ _ _,fun b g hb=>hr.lt b g hb,fun b m g i hb=>ht.cell b m g i hb,Nat.le_refl _,fun _ _ hb _=>hb⟩
  ·cases t with
   | zero=>exact (hx 0 y (by simpa using hy)).1
   | succ t=>simp at hy
  ·cases t with
   | zero=>exact (hx 0 y (by simpa using hy)).2
   | succ t=>simp at hy
 have hx1:xs.getD 1 Go.undef=.int .i64 n:=by
  have:=(hx 1 _ rfl).1
  generalize xs.getD 1 Go.undef=u at this
  cases this; rfl
 have hxs:xs=#[xs.getD 0 Go.undef,xs.getD 1 Go.undef]:=by
  have hs2:xs.size=2:=hs
  refine Array.ext hs2 fun i h1 h2=>?_
  have:i=0∨i=1:=by simp at h2; omega
  rcases this with rfl | rfl <;> simp [Array.getD_eq_getD_getElem?,h1]
 obtain ⟨m,rfl⟩:∃ m:Nat,n=m:=⟨n.toNat,by omega⟩
 simp only [Int.toNat_natCast] at hnb hn47
 have hgo:∀ {R:Value→World→Prop},Calls P (ρ.f 4) xs w (fun e w''=>∃ v,e=.returned v∧R v w'')→Zt0 P (ρ.f 4) xs w R:=fun h=>by
  obtain ⟨nm,hn,hf⟩:=L.f4
  exact ⟨ZbV hf hn rfl xs w,h⟩
 have same:∀ {cv:Value} {Γ':ZF} {s:Zb} {a:Act} {w':World},s.hp=hp→s.ef=none→s.bs=hp.length→Inv ⟨W0,Γ,w⟩ s Γ' a w'→Rep Γ' w' (.own i0.size []) cv→OwnAt Γ' w' .res (.own i0.size []) cv →
   ∃ Γ',RW W0 Γ' w' hp∧Rep Γ' w' (.own i0.size []) cv∧OwnAt Γ' w' .res (.own i0.size []) cv∧Frame Γ w Γ' w' none∧hp.length≤hp.length∧∀ b g,Γ' b=.own g→g < hp.length→Γ b=.own g:=fun h1 h2 h3 i r o=>⟨_,by rw [← h1]; exact i.rw,r,o,by rw [← h2]; exact i.fr,Nat.le_refl _,fun b g k1 k2=>i.back b g k1 (by rw [h3]; exact k2)⟩
 have hmax:maxLen=9223372036854775807:=rfl
 have new:∀ (c:Nat) (cs:List Value),c < m→cs.length=c * i0.size →
   ∃ Γ',RW W0 Γ' (w.drew.alloc (.cells (cs.toArray ++ Builtin.zeroCells z.cells (0 + m - c) ++ Builtin.zeroCells z.cells (grownCap w (0 + m) c (ρ.t 25) - (0 + m))) (ρ.t 25))) hp ∧
    Rep Γ' (w.drew.alloc (.cells (cs.toArray ++ Builtin.zeroCells z.cells (0 + m - c) ++ Builtin.zeroCells z.cells (grownCap w (0 + m) c (ρ.t 25) - (0 + m))) (ρ.t 25))) (.own i0.size []) (.slice (some ⟨w.heap.size,0,none⟩) 0 (grownCap w (0 + m) c (ρ.t 25))) ∧
    OwnAt Γ' (w.drew.alloc (.cells (cs.toArray ++ Builtin.zeroCells z.cells (0 + m - c) ++ Builtin.zeroCells z.cells (grownCap w (0 + m) c (ρ.t 25) - (0 + m))) (ρ.t 25))) .res (.own i0.size []) (.slice (some ⟨w.heap.size,0,none⟩) 0 (grownCap w (0 + m) c (ρ.t 25))) ∧
    Frame Γ w Γ' (w.drew.alloc (.cells (cs.toArray ++ Builtin.zeroCells z.cells (0 + m - c) ++ Builtin.zeroCells z.cells (grownCap w (0 + m) c (ρ.t 25) - (0 + m))) (ρ.t 25))) none∧hp.length≤hp.length∧∀ b g,Γ' b=.own g→g < hp.length→Γ b=.own g:=by
  intro c cs hcm hcl
  have hge:=grownCap_ge w (0 + m) c (ρ.t 25)
  have hle:=grownCap_le_maxLen w (0 + m) c (ρ.t 25) (by omega)
  obtain ⟨Γ',i1,o1⟩:=Zj6 (w := w.drew) hI.drew (k := i0.size) (cap := grownCap w (0 + m) c (ρ.t 25)) (rows := []) (e := ρ.t 25)
   (cur := cs.toArray ++ Builtin.zeroCells z.cells (0 + m - c) ++ Builtin.zeroCells z.cells (grownCap w (0 + m) c (ρ.t 25) - (0 + m))) (Nat.zero_le _) hle (by
    simp only [Array.size_append,List.size_toArray,size_zeroCells,hzs,hcl,← Nat.add_mul]
    congr 1
    omega) (fun r hr=>by cases hr) (fun i j r c hi hj=>by simp at hi)
  exact same rfl rfl rfl i1 (.own _ _ _ (.lstE _ _ _)) o1
 obtain ⟨Γ2,i2,r2,o2⟩:=hI.take 0 (v := .own i0.size []) rfl
 have r2':Rep Γ2 w (.own i0.size []) (xs.getD 0 Go.undef):=r2
 have o2':OwnAt Γ2 w .res (.own i0.size []) (xs.getD 0 Go.undef):=o2
 refine hgo ?_
 rcases (hx 0 _ rfl).2 _ _ rfl with ⟨h1,_⟩ | ⟨b,cap,e0,cur,h1,hg,hh,h2,h3,h4,_⟩
 ·rw [hxs,hx1]
  rw [h1] at r2' o2' ⊢
  rcases Nat.eq_zero_or_pos m with hm | hm
  ·subst hm
   refine (Any8.slices_Grow_room L none 0 0 0 w (by omega) (by omega) (by omega) (by omega)).mono ?_
   rintro e w' ⟨rfl,rfl⟩
   exact ⟨_,rfl,same (s := Zb.let_ ⟨[.own i0.size []],hp,none,hp.length⟩ 0) rfl rfl rfl i2 r2' o2'⟩
  ·refine (Any8.slices_Grow_grow L i0 z hi0 hz0 hs0 none 0 0 m [] w (by omega) (by omega) (by simpa using hnb) (by omega) (by simp) (fun _=>rfl) (fun a ha=>by cases ha)).mono ?_
   rintro e w' ⟨rfl,rfl⟩
   exact ⟨_,rfl,new 0 [] hm (by simp)⟩
 ·have h1:xs.getD 0 Go.undef=.slice (some ⟨b,0,none⟩) 0 cap:=h1
  rw [hxs,hx1]
  rw [h1] at r2' o2' ⊢
  rcases Nat.lt_or_ge cap m with hm | hm
  ·refine (Any8.slices_Grow_grow L i0 z hi0 hz0 hs0 (some ⟨b,0,none⟩) 0 cap m cur.toList w (by omega) (by omega) (by simpa using hnb) (by omega) (by simpa using h4) (fun h=>by cases h) (fun a ha j v hj=>?_)).mono ?_
   ·cases ha
    rw [Array.getElem?_toList] at hj
    have hj':(if j=0 then (⟨b,0,none⟩:Addr) else ⟨b,j,none⟩)=⟨b,j,none⟩:=by
     split
     ·rename_i h0; rw [h0]
     ·rfl
    simp [World.cell?,Addr.add,hj',hh,hj]
   ·rintro e w' ⟨rfl,rfl⟩
    exact ⟨_,rfl,new cap cur.toList hm (by simpa using h4)⟩
  ·refine (Any8.slices_Grow_room L (some ⟨b,0,none⟩) 0 cap m w (by omega) (by omega) (by omega) (by omega)).mono ?_
   rintro e w' ⟨rfl,rfl⟩
   exact ⟨_,rfl,same (s := Zb.let_ ⟨[.own i0.size []],hp,none,hp.length⟩ 0) rfl rfl rfl i2 r2' o2'⟩
end Go.Proofs.YtgjcjbhhhlelnaaGreatDoor.Abs
end
section
namespace Go.Proofs.YtgjcjbhhhlelnaaGreatDoor.Gr
section
variable (E:Nat→Nat→Int→Prop)
inductive Wk:Nat→Nat→Nat→Int→Prop
 | nil (i:Nat):Wk 0 i i 0
 | snoc (m i j k:Nat) (d w:Int) (h:Wk m i j d) (e:E j k w):Wk (m + 1) i k (d + w)
def W (i k:Nat)(d:Int):Prop:=∃ m,Wk E m i k d
structure IsD (M:Int)(i k:Nat)(x:Int):Prop where
 low:-1≤x
 snd:0≤x→∃ d,W E i k d∧x=min M d
 cmp:∀ d,W E i k d→0≤x∧x≤d
theorem IsD.unique {M:Int}{i k:Nat}{x y:Int}(hx:IsD E M i k x)(hy:IsD E M i k y):x=y:=by
 have h1:=hx.low; have h2:=hy.low
 by_cases a:0≤x
 ·obtain ⟨d,w,e⟩:=hx.snd a
  obtain ⟨b,c⟩:=hy.cmp d w
  obtain ⟨d',w',e'⟩:=hy.snd b
  obtain ⟨b',c'⟩:=hx.cmp d' w'
  omega
 ·by_cases b:0≤y
  ·obtain ⟨d,w,e⟩:=hy.snd b
   exact absurd (hx.cmp d w).1 a
  ·omega
variable (hw:∀ j k w,E j k w→1≤w)
include hw
theorem Wk.pos {m i k:Nat}{d:Int}(h:Wk E m i k d):(m:Int)≤d:=by
 induction h with
 | nil=>exact Int.le_refl _
 | snoc m i j k d w _ e ih=>have:=hw j k w e; omega
theorem W.nonneg {i k:Nat}{d:Int}(h:W E i k d):0≤d:=by
 obtain ⟨m,h⟩:=h; have:=h.pos E hw; omega
theorem W.zero {i k:Nat}{d:Int}(h:W E i k d)(hd:d≤0):i=k:=by
 obtain ⟨m,h⟩:=h
 have:=h.pos E hw
 obtain rfl:m=0:=by omega
 cases h; rfl
omit hw in
theorem Wk.cat {m n i j k:Nat}{d e:Int}(h:Wk E m i j d)(h2:Wk E n j k e):Wk E (m + n) i k (d + e):=by
 induction h2 with
 | nil=>rw [Nat.add_zero,Int.add_zero]; exact h
 | snoc n j' j'' k' d' w _ e ih=>rw [← Nat.add_assoc,← Int.add_assoc]; exact .snoc _ _ _ _ _ _ (ih h) e
omit hw in
theorem W.cat {i j k:Nat}{d e:Int}(h:W E i j d)(h2:W E j k e):W E i k (d + e):=by
 obtain ⟨m,h⟩:=h; obtain ⟨n,h2⟩:=h2; exact ⟨_,h.cat E h2⟩
omit hw in
theorem W.arc {j k:Nat}{w:Int}(e:E j k w):W E j k w:=⟨1,by have:=Wk.snoc 0 j j k 0 w (.nil j) e; rwa [Int.zero_add] at this⟩
omit hw in
theorem Ztj:∀ (n:Nat) (f:Nat→Nat),(∀ t,t≤n→f t < n)→∃ a b,a < b∧b≤n∧f a=f b
 | 0,f,h=>absurd (h 0 (Nat.le_refl _)) (Nat.not_lt_zero _)
 | n + 1,f,h=>by
  by_cases hc:∃ t,t < n + 1∧f t=f (n + 1)
  ·obtain ⟨t,h1,h2⟩:=hc; exact ⟨t,n + 1,h1,Nat.le_refl _,h2⟩
  ·have hne:∀ t,t < n + 1→f t≠f (n + 1):=fun t h1 h2=>hc ⟨t,h1,h2⟩
   have hl:=h (n + 1) (Nat.le_refl _)
   obtain ⟨a,b,h1,h2,h3⟩:=Ztj n (fun t=>if f t=n then f (n + 1) else f t) fun t ht=>by
    have h4:=h t (by omega); have h5:=hne t (by omega)
    show (if f t=n then f (n + 1) else f t) < n
    split <;> omega
   refine ⟨a,b,h1,by omega,?_⟩
   have h5:=hne a (by omega); have h6:=hne b (by omega)
   replace h3:(if f a=n then f (n + 1) else f a)=(if f b=n then f (n + 1) else f b):=h3
   split at h3 <;> split at h3 <;> omega
omit hw in
theorem Wk.seq {m i k:Nat}{d:Int}(h:Wk E m i k d):∃ (v:Nat→Nat) (c:Nat→Int),v 0=i∧v m=k∧c 0=0∧c m=d∧∀ t,t < m→E (v t) (v (t + 1)) (c (t + 1) - c t):=by
 induction h with
 | nil i=>exact ⟨fun _=>i,fun _=>0,rfl,rfl,rfl,rfl,fun t h=>absurd h (Nat.not_lt_zero _)⟩
 | snoc m i j k d w _ e ih =>
  obtain ⟨v,c,h1,h2,h3,h4,h5⟩:=ih
  refine ⟨fun t=>if t≤m then v t else k,fun t=>if t≤m then c t else d + w,?_,?_,?_,?_,fun t ht=>?_⟩
  ·simp only [Nat.zero_le,if_true]; exact h1
  ·simp only; rw [if_neg (by omega)]
  ·simp only [Nat.zero_le,if_true]; exact h3
  ·simp only; rw [if_neg (by omega)]
  ·simp only
   rw [if_pos (show t≤m by omega),if_pos (show t≤m by omega)]
   by_cases hc:t < m
   ·rw [if_pos (by omega),if_pos (by omega)]; exact h5 t hc
   ·obtain rfl:t=m:=by omega
    rw [if_neg (by omega),if_neg (by omega),h2,h4,show d + w - d=w by omega]; exact e
omit hw in
theorem Wk.ofSeq {v:Nat→Nat}{c:Nat→Int}{m:Nat}(h:∀ t,t < m→E (v t) (v (t + 1)) (c (t + 1) - c t)){p i b:Nat}{e:Int}(hp:Wk E p i (v b) e):∀ s,b + s≤m→Wk E (p + s) i (v (b + s)) (e + (c (b + s) - c b))
 | 0,_=>by rw [Nat.add_zero,Nat.add_zero,Int.sub_self,Int.add_zero]; exact hp
 | s + 1,hs=>by
  have:=Wk.snoc _ _ _ _ _ _ (Wk.ofSeq h hp s (by omega)) (h (b + s) (by omega))
  rw [show e + (c (b + s) - c b) + (c (b + s + 1) - c (b + s))=e + (c (b + (s + 1)) - c b) by rw [← Nat.add_assoc]; omega] at this
  exact this
theorem short (n:Nat)(hE:∀ j k w,E j k w→j < n∧k < n):∀ (m i k:Nat) (d:Int),i < n→Wk E m i k d→∃ m' d',m' < n∧d'≤d∧Wk E m' i k d':=by
 intro m
 induction m using Nat.strongRecOn with
 | _ m ih =>
  intro i k d hi h
  by_cases hm:m < n
  ·exact ⟨m,d,hm,Int.le_refl _,h⟩
  obtain ⟨v,c,h1,h2,h3,h4,h5⟩:=h.seq E
  have hv:∀ t,t≤n→v t < n:=fun t ht=>by
   cases t with
   | zero=>rw [h1]; exact hi
   | succ t=>exact (hE _ _ _ (h5 t (by omega))).2
  obtain ⟨a,b,h6,h7,h8⟩:=Ztj n v hv
  have hp:Wk E a i (v a) (c a):=by
   have:=Wk.ofSeq E h5 (p := 0) (i := i) (b := 0) (e := 0) (by rw [h1]; exact .nil i) a (by omega)
   rw [h3] at this
   simp only [Nat.zero_add] at this
   rw [show (0:Int) + (c a - 0)=c a by omega] at this
   exact this
  rw [h8] at hp
  have hq:=Wk.ofSeq E h5 hp (m - b) (by omega)
  rw [show b + (m - b)=m by omega,h2,h4] at hq
  have hmono:∀ s,b≤s→c a≤c b:=fun s hs=>by
   have:∀ q,a + q≤m→c a≤c (a + q):=by
    intro q
    induction q with
    | zero=>intro _; exact Int.le_refl _
    | succ q ihq =>
     intro hq
     have e1:=ihq (by omega)
     have e2:=hw _ _ _ (h5 (a + q) (by omega))
     rw [← Nat.add_assoc]; omega
   have:=this (b - a) (by omega)
   rwa [show a + (b - a)=b by omega] at this
  have hc:=hmono b (Nat.le_refl _)
  obtain ⟨m',d',g1,g2,g3⟩:=ih (a + (m - b)) (by omega) i k _ hi hq
  exact ⟨m',d',g1,by omega,g3⟩
inductive WI (t:Nat):Nat→Nat→Int→Prop
 | nil (i:Nat):WI t i i 0
 | arc (i k:Nat) (w:Int) (e:E i k w):WI t i k w
 | cat (i j k:Nat) (d e:Int) (h:WI t i j d) (hj:j < t) (h2:WI t j k e):WI t i k (d + e)
theorem WI.nonneg {t i k:Nat}{d:Int}(h:WI E t i k d):0≤d:=by
 induction h with
 | nil=>exact Int.le_refl _
 | arc i k w e=>have:=hw i k w e; omega
 | cat i j k d e _ _ _ h1 h2=>omega
theorem WI.split {t i k:Nat}{d:Int}(h:WI E (t + 1) i k d):WI E t i k d∨∃ d1 d2,WI E t i t d1∧WI E t t k d2∧d1 + d2≤d:=by
 induction h with
 | nil i=>exact .inl (.nil i)
 | arc i k w e=>exact .inl (.arc i k w e)
 | cat i j k d e h hj h2 ih1 ih2 =>
  by_cases hjt:j < t
  ·rcases ih1 with a | ⟨d1,d2,a1,a2,a3⟩
   ·rcases ih2 with b | ⟨e1,e2,b1,b2,b3⟩
    ·exact .inl (.cat i j k d e a hjt b)
    ·exact .inr ⟨d + e1,e2,.cat _ _ _ _ _ a hjt b1,b2,by omega⟩
   ·rcases ih2 with b | ⟨e1,e2,b1,b2,b3⟩
    ·exact .inr ⟨d1,d2 + e,a1,.cat _ _ _ _ _ a2 hjt b,by omega⟩
    ·have:=a2.nonneg E hw; have:=b1.nonneg E hw
     exact .inr ⟨d1,e2,a1,b2,by omega⟩
  ·obtain rfl:j=t:=by omega
   have hd:=h.nonneg E hw; have he:=h2.nonneg E hw
   obtain ⟨d1,a1,a2⟩:∃ d1,WI E j i j d1∧d1≤d:=by
    rcases ih1 with a | ⟨d1,d2,a1,a2,a3⟩
    ·exact ⟨d,a,Int.le_refl _⟩
    ·have:=a2.nonneg E hw; exact ⟨d1,a1,by omega⟩
   obtain ⟨e2,b1,b2⟩:∃ e2,WI E j j k e2∧e2≤e:=by
    rcases ih2 with b | ⟨e1,e2,b1,b2,b3⟩
    ·exact ⟨e,b,Int.le_refl _⟩
    ·have:=b1.nonneg E hw; exact ⟨e2,b2,by omega⟩
   exact .inr ⟨d1,e2,a1,b1,by omega⟩
omit hw in
theorem WI.ofWk {n:Nat}(hE:∀ j k w,E j k w→j < n∧k < n){m i k:Nat}{d:Int}(h:Wk E m i k d):WI E n i k d:=by
 induction h with
 | nil i=>exact .nil i
 | snoc m i j k d w _ e ih=>exact .cat _ _ _ _ _ ih (hE _ _ _ e).1 (.arc _ _ _ e)
end
end Go.Proofs.YtgjcjbhhhlelnaaGreatDoor.Gr
end
section
namespace Go.Proofs.YtgjcjbhhhlelnaaGreatDoor.Gr
def Wq (a b:Int):Int:=if (decide (a=-1) || decide (b=-1))=true then (if b > a then b else a) else (if b < a then b else a)
def Low (x v:Int):Prop:=0≤x∧x≤v
def Zil (add:Int→Int→Int)(r:List Int)(j k:Nat)(w:Int):List Int :=
 if r.getD j 0 < 0 then r else if (decide (r.getD k 0 < 0) || decide (add (r.getD j 0) w < r.getD k 0))=true then r.set k (add (r.getD j 0) w) else r
theorem BP (r:List Int)(k q:Nat)(v:Int)(hk:k < r.length):(r.set k v).getD q 0=if k=q then v else r.getD q 0:=by
 rw [List.getD_eq_getElem?_getD,List.getElem?_set]
 by_cases h:k=q
 ·subst h; rw [if_pos rfl,if_pos rfl,if_pos hk]; rfl
 ·rw [if_neg h,if_neg h,List.getD_eq_getElem?_getD]
section
variable (E:Nat→Nat→Int→Prop)(hw:∀ j k w,E j k w→1≤w)(n:Nat)(M:Int)(hM:0≤M)(add:Int→Int→Int)(hadd:∀ a b,0≤a→a≤M→0≤b→b≤M→add a b=min M (a + b))(hb:∀ j k w,E j k w→w≤M)(hE:∀ j k w,E j k w→j < n∧k < n)
structure Ztz (i:Nat)(r:List Int):Prop where
 len:r.length=n
 snd:∀ k,k < n→-1≤r.getD k 0∧(0≤r.getD k 0→∃ d,W E i k d∧r.getD k 0=min M d)
include hw hM hadd hb hE
theorem Zst {i j k:Nat}{w:Int}{r:List Int}(h:Ztz E n M i r)(e:E j k w):Ztz E n M i (Zil add r j k w)∧(∀ q v,Low (r.getD q 0) v→Low ((Zil add r j k w).getD q 0) v)∧∀ d,Low (r.getD j 0) d→Low ((Zil add r j k w).getD k 0) (d + w):=by
 obtain ⟨hj,hk⟩:=hE _ _ _ e
 have hwp:=hw _ _ _ e
 have hwM:=hb _ _ _ e
 obtain ⟨s1,s2⟩:=h.snd j hj
 unfold Zil
 by_cases c:r.getD j 0 < 0
 ·rw [if_pos c]
  exact ⟨h,fun _ _ h=>h,fun d hd=>by have:=hd.1; omega⟩
 rw [if_neg c]
 obtain ⟨dj,g1,g2⟩:=s2 (by omega)
 have hdj:=g1.nonneg E hw
 have ha:=hadd (r.getD j 0) w (by omega) (by omega) (by omega) hwM
 rw [ha]
 generalize hs:min M (r.getD j 0 + w)=s
 have hs0:0≤s:=by omega
 have hlen:k < r.length:=by rw [h.len]; exact hk
 by_cases c2:(decide (r.getD k 0 < 0) || decide (s < r.getD k 0))=true
 ·rw [if_pos c2]
  simp only [Bool.or_eq_true,decide_eq_true_eq] at c2
  refine ⟨⟨by rw [List.length_set]; exact h.len,fun q hq=>?_⟩,fun q v hv=>?_,fun d hd=>?_⟩
  ·rw [BP r k q s hlen]
   by_cases hkq:k=q
   ·rw [if_pos hkq]
    exact ⟨by omega,fun _=>⟨dj + w,by rw [← hkq]; exact g1.cat E (W.arc E e),by omega⟩⟩
   ·rw [if_neg hkq]; exact h.snd q hq
  ·rw [BP r k q s hlen]
   by_cases hkq:k=q
   ·rw [if_pos hkq]; rw [← hkq] at hv; obtain ⟨v1,v2⟩:=hv; exact ⟨hs0,by omega⟩
   ·rw [if_neg hkq]; exact hv
  ·rw [BP r k k s hlen,if_pos rfl]
   have:=hd.2; exact ⟨hs0,by omega⟩
 ·rw [if_neg c2]
  simp only [Bool.or_eq_true,decide_eq_true_eq,not_or] at c2
  exact ⟨h,fun _ _ h=>h,fun d hd=>⟨by omega,by have:=hd.2; omega⟩⟩
def ZpK (add:Int→Int→Int):List (Nat×Nat×Int)→List Int→List Int
 | [],r=>r
 | a :: l,r=>ZpK add l (Zil add r a.1 a.2.1 a.2.2)
theorem ZpL {i:Nat}:∀ (l:List (Nat×Nat×Int)) (r:List Int),(∀ a ∈ l,E a.1 a.2.1 a.2.2)→Ztz E n M i r→Ztz E n M i (ZpK add l r)∧(∀ q v,Low (r.getD q 0) v→Low ((ZpK add l r).getD q 0) v)∧∀ a ∈ l,∀ d,Low (r.getD a.1 0) d→Low ((ZpK add l r).getD a.2.1 0) (d + a.2.2)
 | [],r,_,h=>⟨h,fun _ _ h=>h,fun a ha=>by cases ha⟩
 | a :: l,r,hl,h=>by
  obtain ⟨k1,k2,k3⟩:=Zst E hw n M hM add hadd hb hE h (hl a (List.mem_cons_self ..))
  obtain ⟨p1,p2,p3⟩:=ZpL l _ (fun b hb=>hl b (List.mem_cons_of_mem _ hb)) k1
  refine ⟨p1,fun q v hv=>p2 q v (k2 q v hv),fun b hb d hd=>?_⟩
  rcases List.mem_cons.1 hb with rfl | hb
  ·exact p2 _ _ (k3 d hd)
  ·exact p3 b hb d (k2 _ _ hd)
def Ry (add:Int→Int→Int)(l:List (Nat×Nat×Int)):Nat→List Int→List Int
 | 0,r=>r
 | q + 1,r=>Ry add l q (ZpK add l r)
theorem ZhI {i:Nat}(l:List (Nat×Nat×Int))(hl:∀ a ∈ l,E a.1 a.2.1 a.2.2)(hall:∀ j k w,E j k w→(j,k,w) ∈ l):∀ (q p:Nat) (r:List Int),Ztz E n M i r→(∀ m k d,m≤p→Wk E m i k d→Low (r.getD k 0) d) →
  Ztz E n M i (Ry add l q r)∧∀ m k d,m≤p + q→Wk E m i k d→Low ((Ry add l q r).getD k 0) d
 | 0,p,r,h,hc=>⟨h,hc⟩
 | q + 1,p,r,h,hc=>by
  obtain ⟨p1,p2,p3⟩:=ZpL E hw n M hM add hadd hb hE l r hl h
  have:=ZhI l hl hall q (p + 1) _ p1 (fun m k d hm hwk=>by
   cases hwk with
   | nil=>exact p2 _ _ (hc 0 i 0 (Nat.zero_le _) (.nil i))
   | snoc m _ j k d w h1 e=>exact p3 (j,k,w) (hall _ _ _ e) d (hc m j d (by omega) h1))
  refine ⟨this.1,fun m k d hm=>this.2 m k d (by omega)⟩
theorem Zt7 {i:Nat}(hi:i < n)(l:List (Nat×Nat×Int))(hl:∀ a ∈ l,E a.1 a.2.1 a.2.2)(hall:∀ j k w,E j k w→(j,k,w) ∈ l)(r:List Int)(hr:r.length=n)(h0:∀ k,k < n→r.getD k 0=if k=i then 0 else -1) :
  (Ry add l n r).length=n∧∀ k,k < n→IsD E M i k ((Ry add l n r).getD k 0):=by
 have hs:Ztz E n M i r:=⟨hr,fun k hk=>by
  rw [h0 k hk]
  split
  ·rename_i e; subst e; exact ⟨by omega,fun _=>⟨0,⟨0,.nil k⟩,by omega⟩⟩
  ·exact ⟨by omega,fun h=>by omega⟩⟩
 obtain ⟨p1,p2⟩:=ZhI E hw n M hM add hadd hb hE l hl hall n 0 r hs (fun m k d hm h=>by
  obtain rfl:m=0:=by omega
  cases h
  rw [h0 i hi,if_pos rfl]; exact ⟨by omega,by omega⟩)
 refine ⟨p1.len,fun k hk=>⟨(p1.snd k hk).1,(p1.snd k hk).2,fun d hd=>?_⟩⟩
 obtain ⟨m,hm⟩:=hd
 obtain ⟨m',d',h1,h2,h3⟩:=short E hw n hE m i k d hi hm
 have:=p2 m' k d' (by omega) h3
 exact ⟨this.1,by have:=this.2; omega⟩
end
def getM (l:List (List Int))(i k:Nat):Int:=(l.getD i []).getD k 0
def ZiL (l:List (List Int))(i k:Nat)(v:Int):List (List Int):=l.set i ((l.getD i []).set k v)
structure Dim (n:Nat)(l:List (List Int)):Prop where
 len:l.length=n
 row:∀ i,i < n→(l.getD i []).length=n
theorem ZeA (l:List (List Int))(i q:Nat)(r:List Int)(hi:i < l.length):(l.set i r).getD q []=if i=q then r else l.getD q []:=by
 rw [List.getD_eq_getElem?_getD,List.getElem?_set]
 by_cases h:i=q
 ·subst h; rw [if_pos rfl,if_pos rfl,if_pos hi]; rfl
 ·rw [if_neg h,if_neg h,List.getD_eq_getElem?_getD]
theorem ZtS {n:Nat}{l:List (List Int)}(h:Dim n l){i k:Nat}(hi:i < n)(v:Int):Dim n (ZiL l i k v):=by
 refine ⟨by rw [ZiL,List.length_set]; exact h.len,fun q hq=>?_⟩
 rw [ZiL,ZeA _ _ _ _ (by rw [h.len]; exact hi)]
 split
 ·rw [List.length_set]; exact h.row i hi
 ·exact h.row q hq
theorem Zji {n:Nat}{l:List (List Int)}(h:Dim n l){i k:Nat}(hi:i < n)(hk:k < n)(v:Int)(p q:Nat):getM (ZiL l i k v) p q=if i=p∧k=q then v else getM l p q:=by
 rw [getM,ZiL,ZeA _ _ _ _ (by rw [h.len]; exact hi)]
 by_cases h1:i=p
 ·subst h1
  rw [if_pos rfl,BP _ _ _ _ (by rw [h.row i hi]; exact hk)]
  by_cases h2:k=q
  ·rw [if_pos h2,if_pos ⟨rfl,h2⟩]
  ·rw [if_neg h2,if_neg (fun c=>h2 c.2)]; rfl
 ·rw [if_neg h1,if_neg (fun c=>h1 c.1)]; rfl
theorem Zk4 (x s:Int)(hx:-1≤x)(hs:0≤s):(∀ v,Low x v→Low (Wq x s) v)∧Low (Wq x s) s∧-1≤Wq x s∧(Wq x s=s∨Wq x s=x):=by
 have hs1:s≠-1:=by omega
 unfold Wq Low
 by_cases h:x=-1
 ·rw [if_pos (by simp [h]),if_pos (by omega)]
  exact ⟨fun v hv=>by omega,⟨hs,Int.le_refl _⟩,by omega,.inl rfl⟩
 ·rw [if_neg (by simp [h,hs1])]
  split
  ·exact ⟨fun v hv=>by omega,⟨hs,Int.le_refl _⟩,by omega,.inl rfl⟩
  ·exact ⟨fun v hv=>hv,by omega,by omega,.inr rfl⟩
section
variable (E:Nat→Nat→Int→Prop)(hw:∀ j k w,E j k w→1≤w)(n:Nat)(M:Int)(hM:0≤M)(add:Int→Int→Int)(hadd:∀ a b,0≤a→a≤M→0≤b→b≤M→add a b=min M (a + b))(hb:∀ j k w,E j k w→w≤M)(hE:∀ j k w,E j k w→j < n∧k < n)
structure Zmi (l:List (List Int)):Prop where
 dim:Dim n l
 snd:∀ i k,i < n→k < n→-1≤getM l i k∧(0≤getM l i k→∃ d,W E i k d∧getM l i k=min M d)
def ZnD (l l':List (List Int)):Prop:=∀ i k,i < n→k < n→∀ v,Low (getM l i k) v→Low (getM l' i k) v
def Znu (add:Int→Int→Int)(t i k:Nat)(l:List (List Int)):List (List Int) :=
 if (decide (getM l i t≠-1) && decide (getM l t k≠-1))=true then ZiL l i k (Wq (getM l i k) (add (getM l i t) (getM l t k))) else l
include hM
theorem Ztl {l:List (List Int)}(h:Zmi E n M l){i k:Nat}(hi:i < n)(hk:k < n){s:Int}(hs:0≤s)(hd:∃ d,W E i k d∧s=min M d):Zmi E n M (ZiL l i k (Wq (getM l i k) s))∧ZnD n l (ZiL l i k (Wq (getM l i k) s))∧Low (getM (ZiL l i k (Wq (getM l i k) s)) i k) s:=by
 obtain ⟨s1,s2⟩:=h.snd i k hi hk
 obtain ⟨l1,l2,l3,l4⟩:=Zk4 (getM l i k) s s1 hs
 refine ⟨⟨ZtS h.dim hi _,fun p q hp hq=>?_⟩,fun p q hp hq v hv=>?_,?_⟩
 ·rw [Zji h.dim hi hk]
  by_cases c:i=p∧k=q
  ·rw [if_pos c]
   obtain ⟨rfl,rfl⟩:=c
   refine ⟨l3,fun h0=>?_⟩
   rcases l4 with e | e
   ·rw [e]; exact hd
   ·rw [e] at h0 ⊢; exact s2 h0
  ·rw [if_neg c]; exact h.snd p q hp hq
 ·rw [Zji h.dim hi hk]
  by_cases c:i=p∧k=q
  ·rw [if_pos c]
   obtain ⟨rfl,rfl⟩:=c
   exact l1 v hv
  ·rw [if_neg c]; exact hv
 ·rw [Zji h.dim hi hk,if_pos ⟨rfl,rfl⟩]; exact l2
include hw hadd hb hE
theorem step_ok {l:List (List Int)}(h:Zmi E n M l){t i k:Nat}(ht:t < n)(hi:i < n)(hk:k < n):Zmi E n M (Znu add t i k l)∧ZnD n l (Znu add t i k l)∧∀ d1 d2,Low (getM l i t) d1→Low (getM l t k) d2→Low (getM (Znu add t i k l) i k) (d1 + d2):=by
 obtain ⟨a1,a2⟩:=h.snd i t hi ht
 obtain ⟨b1,b2⟩:=h.snd t k ht hk
 unfold Znu
 by_cases c:(decide (getM l i t≠-1) && decide (getM l t k≠-1))=true
 ·rw [if_pos c]
  simp only [Bool.and_eq_true,decide_eq_true_eq] at c
  obtain ⟨da,g1,g2⟩:=a2 (by omega)
  obtain ⟨db,g3,g4⟩:=b2 (by omega)
  have n1:=g1.nonneg E hw; have n2:=g3.nonneg E hw
  rw [hadd _ _ (by omega) (by omega) (by omega) (by omega)]
  obtain ⟨p1,p2,p3⟩:=Ztl E n M hM h hi hk (s := min M (getM l i t + getM l t k)) (by omega) ⟨da + db,g1.cat E g3,by omega⟩
  exact ⟨p1,p2,fun d1 d2 h1 h2=>⟨p3.1,by have:=p3.2; have:=h1.2; have:=h2.2; omega⟩⟩
 ·rw [if_neg c]
  simp only [Bool.and_eq_true,decide_eq_true_eq] at c
  exact ⟨h,fun _ _ _ _ _ h=>h,fun d1 d2 h1 h2=>absurd ⟨by have:=h1.1; omega,by have:=h2.1; omega⟩ c⟩
def fwK (add:Int→Int→Int)(t i:Nat):Nat→Nat→List (List Int)→List (List Int)
 | 0,_,l=>l
 | q + 1,k,l=>fwK add t i q (k + 1) (Znu add t i k l)
def fwI (add:Int→Int→Int)(n t:Nat):Nat→Nat→List (List Int)→List (List Int)
 | 0,_,l=>l
 | q + 1,i,l=>fwI add n t q (i + 1) (fwK add t i n 0 l)
def fwV (add:Int→Int→Int)(n:Nat):Nat→Nat→List (List Int)→List (List Int)
 | 0,_,l=>l
 | q + 1,t,l=>fwV add n q (t + 1) (fwI add n t n 0 l)
theorem ZsP {t i:Nat}(ht:t < n)(hi:i < n):∀ (q k:Nat) (l:List (List Int)),k + q=n→Zmi E n M l→Zmi E n M (fwK add t i q k l)∧ZnD n l (fwK add t i q k l)∧∀ p,k≤p→p < n→∀ d1 d2,Low (getM l i t) d1→Low (getM l t p) d2→Low (getM (fwK add t i q k l) i p) (d1 + d2)
 | 0,k,l,hq,h=>⟨h,fun _ _ _ _ _ h=>h,fun p h1 h2=>by omega⟩
 | q + 1,k,l,hq,h=>by
  obtain ⟨s1,s2,s3⟩:=step_ok E hw n M hM add hadd hb hE h ht hi (show k < n by omega)
  obtain ⟨r1,r2,r3⟩:=ZsP ht hi q (k + 1) _ (by omega) s1
  refine ⟨r1,fun a b ha hb v hv=>r2 a b ha hb v (s2 a b ha hb v hv),fun p h1 h2 d1 d2 e1 e2=>?_⟩
  by_cases c:k=p
  ·subst c
   exact r2 i k hi h2 _ (s3 d1 d2 e1 e2)
  ·exact r3 p (by omega) h2 d1 d2 (s2 i t hi ht _ e1) (s2 t p ht h2 _ e2)
theorem ZsO {t:Nat}(ht:t < n):∀ (q i:Nat) (l:List (List Int)),i + q=n→Zmi E n M l→Zmi E n M (fwI add n t q i l)∧ZnD n l (fwI add n t q i l)∧∀ j p,i≤j→j < n→p < n→∀ d1 d2,Low (getM l j t) d1→Low (getM l t p) d2→Low (getM (fwI add n t q i l) j p) (d1 + d2)
 | 0,i,l,hq,h=>⟨h,fun _ _ _ _ _ h=>h,fun j p h1 h2=>by omega⟩
 | q + 1,i,l,hq,h=>by
  obtain ⟨s1,s2,s3⟩:=ZsP E hw n M hM add hadd hb hE ht (show i < n by omega) n 0 l (by omega) h
  obtain ⟨r1,r2,r3⟩:=ZsO ht q (i + 1) _ (by omega) s1
  refine ⟨r1,fun a b ha hb v hv=>r2 a b ha hb v (s2 a b ha hb v hv),fun j p h1 h2 h3 d1 d2 e1 e2=>?_⟩
  by_cases c:i=j
  ·subst c
   exact r2 i p h2 h3 _ (s3 p (Nat.zero_le _) h3 d1 d2 e1 e2)
  ·exact r3 j p (by omega) h2 h3 d1 d2 (s2 j t h2 ht _ e1) (s2 t p ht h3 _ e2)
theorem WI.in {t i k:Nat}{d:Int}(hi:i < n)(h:WI E t i k d):k < n:=by
 induction h with
 | nil=>exact hi
 | arc i k w e=>exact (hE _ _ _ e).2
 | cat i j k d e _ _ _ h1 h2=>exact h2 (h1 hi)
theorem ZsQ:∀ (q t:Nat) (l:List (List Int)),t + q=n→Zmi E n M l→(∀ i k d,i < n→k < n→WI E t i k d→Low (getM l i k) d)→Zmi E n M (fwV add n q t l)∧∀ i k d,i < n→k < n→WI E n i k d→Low (getM (fwV add n q t l) i k) d
 | 0,t,l,hq,h,hc=>by
  obtain rfl:t=n:=by omega
  exact ⟨h,hc⟩
 | q + 1,t,l,hq,h,hc=>by
  have ht:t < n:=by omega
  obtain ⟨s1,s2,s3⟩:=ZsO E hw n M hM add hadd hb hE ht n 0 l (by omega) h
  refine ZsQ q (t + 1) _ (by omega) s1 fun i k d hi hk hwi=>?_
  rcases hwi.split E hw with a | ⟨d1,d2,a1,a2,a3⟩
  ·exact s2 i k hi hk _ (hc i k d hi hk a)
  ·have:=s3 i k (Nat.zero_le _) hi hk d1 d2 (hc i t d1 hi ht a1) (hc t k d2 ht hk a2)
   exact ⟨this.1,by have:=this.2; omega⟩
def Zfc:List (Nat×Nat×Int)→List (List Int)→List (List Int)
 | [],l=>l
 | a :: r,l=>Zfc r (ZiL l a.1 a.2.1 (Wq (getM l a.1 a.2.1) a.2.2))
theorem ZkY:∀ (r:List (Nat×Nat×Int)) (l:List (List Int)),(∀ a ∈ r,E a.1 a.2.1 a.2.2)→Zmi E n M l→Zmi E n M (Zfc r l)∧ZnD n l (Zfc r l)∧∀ a ∈ r,Low (getM (Zfc r l) a.1 a.2.1) a.2.2
 | [],l,_,h=>⟨h,fun _ _ _ _ _ h=>h,fun a ha=>by cases ha⟩
 | a :: r,l,hr,h=>by
  have e:=hr a (List.mem_cons_self ..)
  have h1:=hw _ _ _ e; have h2:=hb _ _ _ e
  obtain ⟨hj,hk⟩:=hE _ _ _ e
  obtain ⟨p1,p2,p3⟩:=Ztl E n M hM h hj hk (s := a.2.2) (by omega) ⟨a.2.2,W.arc E e,by omega⟩
  obtain ⟨r1,r2,r3⟩:=ZkY r _ (fun b hb=>hr b (List.mem_cons_of_mem _ hb)) p1
  refine ⟨r1,fun i k hi hk v hv=>r2 i k hi hk v (p2 i k hi hk v hv),fun b hb=>?_⟩
  rcases List.mem_cons.1 hb with rfl | hb
  ·exact r2 _ _ hj hk _ p3
  ·exact r3 b hb
theorem Zre (r:List (Nat×Nat×Int))(hr:∀ a ∈ r,E a.1 a.2.1 a.2.2)(hall:∀ j k w,E j k w→(j,k,w) ∈ r)(l:List (List Int))(hl:Dim n l)(h0:∀ i k,i < n→k < n→getM l i k=if k=i then 0 else -1) :
  Dim n (fwV add n n 0 (Zfc r l))∧∀ i k,i < n→k < n→IsD E M i k (getM (fwV add n n 0 (Zfc r l)) i k):=by
 have hs:Zmi E n M l:=⟨hl,fun i k hi hk=>by
  rw [h0 i k hi hk]
  split
  ·rename_i e; subst e; exact ⟨by omega,fun _=>⟨0,⟨0,.nil k⟩,by omega⟩⟩
  ·exact ⟨by omega,fun h=>by omega⟩⟩
 obtain ⟨a1,a2,a3⟩:=ZkY E hw n M hM add hadd hb hE r l hr hs
 obtain ⟨f1,f2⟩:=ZsQ E hw n M hM add hadd hb hE n 0 _ (by omega) a1 (fun i k d hi hk h=>by
  cases h with
  | nil=>exact a2 i i hi hi _ (by rw [h0 i i hi hi,if_pos rfl]; exact ⟨Int.le_refl _,Int.le_refl _⟩)
  | arc _ _ w e=>exact a3 (i,k,d) (hall _ _ _ e)
  | cat _ j _ _ _ _ hj _=>exact absurd hj (Nat.not_lt_zero _))
 refine ⟨f1.dim,fun i k hi hk=>⟨(f1.snd i k hi hk).1,(f1.snd i k hi hk).2,fun d ⟨m,hm⟩=>f2 i k d hi hk (WI.ofWk E hE hm)⟩⟩
end
end Go.Proofs.YtgjcjbhhhlelnaaGreatDoor.Gr
end
