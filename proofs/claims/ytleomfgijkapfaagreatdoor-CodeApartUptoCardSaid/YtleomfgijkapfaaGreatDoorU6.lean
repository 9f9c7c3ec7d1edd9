import Derived.Deep.Slices
import Derived.ChangeArms
import Derived.DataReads
import Derived.WideKeyArgs
import Derived.SizedLaws
import Derived.Test.YtleomfgijkapfaaGreatDoorProg
import Derived.ProofKit
import Derived.Test.YtleomfgijkapfaaGreatDoorU5
set_option linter.all false
section
namespace Go.Proofs.YtleomfgijkapfaaGreatDoor.Abs
open Go Go.RowKit Go.ChangeShapes Go.WideShapes Go.Deep
def Ze6 (P:Program):List Field→Nat→Nat→Bool
 | [],o,n=>o == n
 | f :: r,o,n=>(f.offset == o) && Ze6 P r (o + P.cellsOf f.type) n
def Zn7 (P:Program):Nat→TypeId→Bool
 | 0,_=>false
 | n + 1,t=>match P.underlying t with
  | some .bool=>true
  | some (.int _)=>true
  | some .string=>true
  | some (.slice e)=>(decide (0 < P.cellsOf e) && decide (0 < P.bytesOf e)) && Zn7 P n e
  | some (.struct fs)=>Ze6 P fs.toList 0 (P.cellsOf t) && fs.toList.all fun f=>Zn7 P n f.type
  | _=>false
def ZcS {H:Type}(P:Program):Nat→TypeId→List AV→DataW H→Prop
 | 0,_,_,_=>False
 | n + 1,t,az,d=>match P.underlying t with
  | some .bool=>∃ b,az=[.bool b]∧d=.lit (.bool b)
  | some (.int k)=>∃ x,az=[.int k x]∧d=.lit (.int k x)∧(Lit.int k x).wf=true
  | some .string=>∃ s,az=[.str s]∧d=.lit (.string s)∧s.length≤140737488351232
  | some (.slice e)=>∃ rows,az=[.lst (P.cellsOf e) rows]∧rows.length≤140737488351232∧((rows=[]∧d=.nil)∨∃ D ds spare,d=.slice ds spare∧ds=(List.range rows.length).map D∧∀ (i:Nat) (r:List AV),rows[i]? = some r→ZcS P n e r (D i))
  | some (.struct fs)=>az.length=P.cellsOf t∧∃ ds,d=.agg ds∧ds.length=fs.size∧∀ (i:Nat) (f:Field),fs.toList[i]? = some f→∃ di,ds[i]? = some di∧ZcS P n f.type ((az.drop f.offset).take (P.cellsOf f.type)) di
  | _=>False
structure Shp {H:Type}(P:Program)(n:Nat)(t:TypeId)(az:List AV)(d:DataW H):Prop where
 ok:ZcS P n t az d
theorem Dc {n:Nat}(h:n≤reachBytes):n≤140737488351232:=h
theorem Shp.bool {H:Type}{P:Program}{n:Nat}{t:TypeId}{az:List AV}{d:DataW H}(h:Shp P (n + 1) t az d)(hu:P.underlying t=some .bool):∃ b,az=[.bool b]∧d=.lit (.bool b):=by
 have h:=h.ok; rw [ZcS,hu] at h; exact h
theorem Shp.int {H:Type}{P:Program}{n:Nat}{t:TypeId}{k:IntKind}{az:List AV}{d:DataW H}(h:Shp P (n + 1) t az d)(hu:P.underlying t=some (.int k)):∃ x,az=[.int k x]∧d=.lit (.int k x)∧k.min≤x∧x≤k.max:=by
 have h:=h.ok
 rw [ZcS,hu] at h
 obtain ⟨x,h1,h2,h3⟩:=h
 simp only [Lit.wf,Bool.and_eq_true,decide_eq_true_eq] at h3
 exact ⟨x,h1,h2,h3⟩
theorem Shp.i64 {H:Type}{P:Program}{n:Nat}{t:TypeId}{az:List AV}{d:DataW H}(h:Shp P (n + 1) t az d)(hu:P.underlying t=some (.int .i64)):∃ x,az=[.int .i64 x]∧d=.lit (.int .i64 x)∧-9223372036854775808≤x∧x≤9223372036854775807:=by
 obtain ⟨x,h1,h2,h3⟩:=h.int hu
 exact ⟨x,h1,h2,by simpa [IntKind.min,IntKind.max,IntKind.signed,IntKind.bits] using h3⟩
theorem Shp.str {H:Type}{P:Program}{n:Nat}{t:TypeId}{az:List AV}{d:DataW H}(h:Shp P (n + 1) t az d)(hu:P.underlying t=some .string):∃ s,az=[.str s]∧d=.lit (.string s)∧s.length≤140737488351232:=by
 have h:=h.ok; rw [ZcS,hu] at h; exact h
theorem Shp.slice {H:Type}{P:Program}{n:Nat}{t e:TypeId}{az:List AV}{d:DataW H}(h:Shp P (n + 1) t az d)(hu:P.underlying t=some (.slice e)):∃ rows,az=[.lst (P.cellsOf e) rows]∧rows.length≤140737488351232∧((rows=[]∧d=.nil)∨∃ D ds spare,d=.slice ds spare∧ds=(List.range rows.length).map D∧∀ (i:Nat) (r:List AV),rows[i]? = some r→Shp P n e r (D i)):=by
 have h:=h.ok
 rw [ZcS,hu] at h
 obtain ⟨rows,h1,h2,h3⟩:=h
 refine ⟨rows,h1,h2,h3.imp id ?_⟩
 rintro ⟨D,ds,spare,e1,e2,e3⟩
 exact ⟨D,ds,spare,e1,e2,fun i r hr=>⟨e3 i r hr⟩⟩
theorem Shp.struct {H:Type}{P:Program}{n:Nat}{t:TypeId}{fs:Array Field}{az:List AV}{d:DataW H}(h:Shp P (n + 1) t az d)(hu:P.underlying t=some (.struct fs)):az.length=P.cellsOf t∧∃ ds,d=.agg ds∧ds.length=fs.size∧∀ (i:Nat) (f:Field),fs.toList[i]? = some f→∃ di,ds[i]? = some di∧Shp P n f.type ((az.drop f.offset).take (P.cellsOf f.type)) di:=by
 have h:=h.ok
 rw [ZcS,hu] at h
 obtain ⟨h1,ds,h2,h3,h4⟩:=h
 exact ⟨h1,ds,h2,h3,fun i f hf=>let ⟨di,e1,e2⟩:=h4 i f hf; ⟨di,e1,⟨e2⟩⟩⟩
def Xo (Γ:Zo)(w:World)(a:AV)(v:Value):Prop:=Rep Γ w a v∧a.one=true∧a.noId1=true∧∀ k r,a≠.own k r
variable {H:Type}{enc:TypeId×Value→H}{P:Program}{w:World}{base:Nat}{sp:Nat→Bool}{held:Bool}{Γ:Zo}
theorem ZeG {H:Type}{P:Program}{e:TypeId}{d:DataW H}{y:Nat}:∀ {ds:List (DataW H)},d ∈ ds→y ∈ d.weights P e→y ∈ DataW.weightsAll P e ds
 | [],h,_=>by simp at h
 | z :: ds,h,hy=>by
  rw [DataW.weightsAll,List.mem_append]
  rcases List.mem_cons.1 h with rfl | h
  ·exact .inl hy
  ·exact .inr (ZeG h hy)
theorem sized_arg {H:Type}{P:Program}{ts:List TypeId}{ds:List (DataW H)}(h:(DataW.weightsEach P ts ds).all (·≤reachBytes)=true){j:Nat}{t:TypeId}{d:DataW H}(ht:ts[j]? = some t)(hd:ds[j]? = some d):∀ y ∈ d.weights P t,y≤reachBytes:=fun y hy=>by
 have:=List.all_eq_true.1 h _ (DataW.weights_mem_each ht hd y hy)
 simpa using this
theorem AO (n fuel:Nat)(cs:List Value)
  (ih:∀ (t:TypeId) (cs:List Value) (x:DataW H×List MemPlace),Zn7 P n t=true→DataW.trod enc P w base sp held fuel t cs=some x→(∀ y ∈ x.1.weights P t,y≤reachBytes)→∃ az:List AV,ZcS P n t az x.1∧az.length=cs.length∧∀ j a,az[j]? = some a→Xo Γ w a (cs.getD j Go.undef)) :
  ∀ (fs:List Field) (xs:List (DataW H×List MemPlace)) (o m:Nat),Ze6 P fs o m=true→m=cs.length→(fs.all fun f=>Zn7 P n f.type)=true→(∀ (i:Nat) (f:Field),fs[i]? = some f→∃ x,xs[i]? = some x∧DataW.trod enc P w base sp held fuel f.type ((cs.drop f.offset).take (P.cellsOf f.type))=some x∧∀ y ∈ x.1.weights P f.type,y≤reachBytes) →
   o≤m∧∃ az:List AV,az.length=m - o∧(∀ (i:Nat) (f:Field),fs[i]? = some f→o≤f.offset∧∃ x,xs[i]? = some x∧ZcS P n f.type ((az.drop (f.offset - o)).take (P.cellsOf f.type)) x.1)∧∀ j a,az[j]? = some a→Xo Γ w a (cs.getD (o + j) Go.undef)
 | [],xs,o,m,ht,hm,_,_=>by
  have:o=m:=by simpa [Ze6] using ht
  subst this
  exact ⟨Nat.le_refl _,[],by simp,fun i f hf=>by simp at hf,fun j a h=>by simp at h⟩
 | f :: r,xs,o,m,ht,hm,hok,hx=>by
  simp only [Ze6,Bool.and_eq_true,beq_iff_eq] at ht
  simp only [List.all_cons,Bool.and_eq_true] at hok
  obtain ⟨x,hx0,hxf,hxw⟩:=hx 0 f rfl
  obtain ⟨xs,rfl⟩:∃ xs',xs=x :: xs':=by
   cases xs with
   | nil=>simp at hx0
   | cons y ys=>simp at hx0; exact ⟨ys,by rw [hx0]⟩
  obtain ⟨hle,az,hl,hs,hr⟩:=AO n fuel cs ih r xs _ m ht.2 hm hok.2 (fun i g hg=>hx (i + 1) g hg)
  obtain ⟨a1,s1,l1,r1⟩:=ih _ _ _ hok.1 hxf hxw
  have hlen:((cs.drop f.offset).take (P.cellsOf f.type)).length=P.cellsOf f.type:=by
   rw [List.length_take,List.length_drop]; omega
  rw [hlen] at l1
  refine ⟨by omega,a1 ++ az,by rw [List.length_append]; omega,fun i g hg=>?_,fun j a hj=>?_⟩
  ·cases i with
   | zero =>
    simp only [List.getElem?_cons_zero,Option.some.injEq] at hg
    subst hg
    refine ⟨by omega,x,rfl,?_⟩
    rw [ht.1,Nat.sub_self,List.drop_zero,List.take_append_of_le_length (by omega),List.take_of_length_le (by omega)]
    exact s1
   | succ i =>
    simp only [List.getElem?_cons_succ] at hg
    obtain ⟨q1,q2⟩:=hs i g hg
    refine ⟨by omega,?_⟩
    rw [List.drop_append,List.drop_eq_nil_of_le (by omega),List.nil_append,l1]
    rw [show g.offset - o - P.cellsOf f.type=g.offset - (o + P.cellsOf f.type) by omega]
    simpa using q2
  ·by_cases hj2:j < a1.length
   ·rw [List.getElem?_append_left hj2] at hj
    have:=r1 j a hj
    have e:((cs.drop f.offset).take (P.cellsOf f.type)).getD j Go.undef=cs.getD (o + j) Go.undef:=by
     rw [List.getD_eq_getElem?_getD,List.getD_eq_getElem?_getD,List.getElem?_take_of_lt (by omega),List.getElem?_drop,ht.1]
    rwa [e] at this
   ·rw [List.getElem?_append_right (by omega)] at hj
    have:=hr _ a hj
    rwa [show o + P.cellsOf f.type + (j - a1.length)=o + j by omega] at this
theorem PE (hΓ:∀ b,Γ b=.imm):∀ (n fuel:Nat) (t:TypeId) (cs:List Value) (x:DataW H×List MemPlace),Zn7 P n t=true→DataW.trod enc P w base sp held fuel t cs=some x→(∀ y ∈ x.1.weights P t,y≤reachBytes) →
  ∃ az:List AV,ZcS P n t az x.1∧az.length=cs.length∧∀ j a,az[j]? = some a→Xo Γ w a (cs.getD j Go.undef)
 | 0,_,_,_,_,h,_,_=>by cases h
 | n + 1,0,_,_,_,_,h,_=>by cases h
 | n + 1,fuel + 1,t,cs,x,ho,h,hwt=>by
  cases hu:P.underlying t with
  | none=>simp [Zn7,hu] at ho
  | some d =>
  have hS:∀ (az:List AV) (dd:DataW H),ZcS P (n + 1) t az dd=_:=fun az dd=>by rw [ZcS,hu]
  have one:∀ (c:AV) (v:Value),Xo Γ w c v→∀ j a,[c][j]? = some a→Xo Γ w a ([v].getD j Go.undef):=fun c v hc j a hj=>by
   match j,hj with
   | 0,hj=>cases hj; exact hc
   | j + 1,hj=>simp at hj
  cases d <;> simp only [Zn7,hu,Bool.false_eq_true] at ho
  case bool =>
   obtain ⟨b,rfl,rfl⟩:=DataW.trod_bool hu h
   exact ⟨[.bool b],(hS _ _).mpr ⟨b,rfl,rfl⟩,rfl,one _ _ ⟨.bool b,rfl,rfl,fun k r e=>by cases e⟩⟩
  case int k =>
   obtain ⟨x,rfl,rfl,hw⟩:=DataW.trod_int hu h
   exact ⟨[.int k x],(hS _ _).mpr ⟨x,rfl,rfl,hw⟩,rfl,one _ _ ⟨.int k x,rfl,rfl,fun k r e=>by cases e⟩⟩
  case string =>
   obtain ⟨b,rfl,rfl,hb⟩:=DataW.trod_string hu h
   have e:b=⟨b.data.toList.toArray⟩:=by cases b; simp
   refine ⟨[.str b.data.toList],(hS _ _).mpr ⟨_,rfl,rfl,Dc (hwt _ (by simp [DataW.weights]))⟩,rfl,one _ _ ⟨?_,rfl,rfl,fun k r e=>by cases e⟩⟩
   have:Rep Γ w (.str b.data.toList) (.string ⟨b.data.toList.toArray⟩):=.str _
   rwa [← e] at this
  case slice e =>
   simp only [Bool.and_eq_true,decide_eq_true_eq] at ho
   rcases open_slice hu h with ⟨rfl,rfl⟩ | ⟨A,len,cap,m,n',D,Pl,rfl,hb,hl,hm,hmm,rfl,hi⟩
   ·exact ⟨[.lst (P.cellsOf e) []],(hS _ _).mpr ⟨[],rfl,by simp,.inl ⟨rfl,rfl⟩⟩,rfl,one _ _ ⟨.lstNil _,rfl,rfl,fun k r e=>by cases e⟩⟩
   ·have hlm:len≤m:=by rw [hmm]; split <;> omega
    have hwe:∀ i,i < len→∀ y ∈ (D i).weights P e,y≤reachBytes:=fun i hi y hy=>by
     refine hwt y ?_
     simp only [DataW.weights,hu]
     exact List.mem_cons_of_mem _ (List.mem_append_left _ (ZeG (List.mem_map.2 ⟨i,by simpa using hi,rfl⟩) hy))
    have hlr:len≤140737488351232:=by
     refine Dc (Nat.le_trans ?_ (hwt ((((List.range len).map D).length + ((List.range (m - len)).map fun j=>D (len + j)).length) * P.bytesOf e) ?_))
     ·simp only [List.length_map,List.length_range]
      exact Nat.le_trans (Nat.le_add_right _ _) (Nat.le_mul_of_pos_right _ ho.1.2)
     ·simp only [DataW.weights,hu]
      exact List.mem_cons_self ..
    have hrow:∀ i,∃ r:List AV,i < len→ZcS P n e r (D i)∧r.length=P.cellsOf e∧∀ j a,r[j]? = some a→w.cell? ((A.add (i * P.cellsOf e)).add j)=some ((w.cell? ((A.add (i * P.cellsOf e)).add j)).getD Go.undef)∧Xo Γ w a ((w.cell? ((A.add (i * P.cellsOf e)).add j)).getD Go.undef):=fun i=>by
     by_cases hil:i < len
     ·obtain ⟨cs',hc,ht⟩:=hi i (by omega)
      obtain ⟨_,hlen,hcell⟩:=World.cells?_some hc
      obtain ⟨r,s1,l1,r1⟩:=PE hΓ n n' e cs' _ ho.2 ht (hwe i hil)
      refine ⟨r,fun _=>⟨s1,by omega,fun j a hj=>?_⟩⟩
      have hjl:j < r.length:=(List.getElem?_eq_some_iff.1 hj).1
      have hc2:=hcell j (by omega)
      have hr:=r1 j a hj
      rw [List.getElem?_eq_getElem (by omega)] at hc2
      rw [List.getD_eq_getElem?_getD,List.getElem?_eq_getElem (by omega)] at hr
      rw [hc2]
      exact ⟨rfl,hr⟩
     ·exact ⟨[],fun h=>absurd h hil⟩
    have hf:∃ f:Nat→List AV,∀ i,i < len→ZcS P n e (f i) (D i)∧(f i).length=P.cellsOf e∧∀ j a,(f i)[j]? = some a→w.cell? ((A.add (i * P.cellsOf e)).add j)=some ((w.cell? ((A.add (i * P.cellsOf e)).add j)).getD Go.undef)∧Xo Γ w a ((w.cell? ((A.add (i * P.cellsOf e)).add j)).getD Go.undef) :=
     ⟨fun i=>(hrow i).choose,fun i=>(hrow i).choose_spec⟩
    obtain ⟨f,hf⟩:=hf
    have hget:∀ (i:Nat) (r:List AV),((List.range len).map f)[i]? = some r→i < len∧r=f i:=fun i r hr=>by
     rw [List.getElem?_map] at hr
     obtain ⟨i',hi',rfl⟩:=Option.map_eq_some_iff.1 hr
     have hlt:=(List.getElem?_eq_some_iff.1 hi').1
     rw [List.length_range] at hlt
     rw [List.getElem?_range hlt] at hi'
     obtain rfl:=Option.some.inj hi'
     exact ⟨hlt,rfl⟩
    refine ⟨[.lst (P.cellsOf e) ((List.range len).map f)],(hS _ _).mpr ⟨_,rfl,by simpa using hlr,.inr ⟨D,_,_,rfl,by simp,fun i r hr=>?_⟩⟩,rfl,one _ _ ⟨?_,rfl,rfl,fun k r e=>by cases e⟩⟩
    ·obtain ⟨h1,rfl⟩:=hget i r hr
     exact (hf i h1).1
    ·by_cases hex:∃ (i j:Nat) (a:AV),i < len∧(f i)[j]? = some a
     ·obtain ⟨i0,j0,a0,hi0,hj0⟩:=hex
      have h0:∃ v,w.cell? A=some v:=by
       have hj0l:j0 < (f i0).length:=(List.getElem?_eq_some_iff.1 hj0).1
       have hpos:0 < P.cellsOf e:=by have:=(hf i0 hi0).2.1; omega
       have hz:=(hf 0 (by omega)).2.1
       have:=((hf 0 (by omega)).2.2 0 ((f 0)[0]'(by omega)) (List.getElem?_eq_getElem _)).1
       rw [Nat.zero_mul] at this
       have e1:(A.add 0).add 0=A:=by simp [Addr.add]
       rw [e1] at this
       exact ⟨_,this⟩
      have hsp:A.spot=none:=by
       obtain ⟨v,hv⟩:=h0
       unfold World.cell? at hv
       split at hv
       ·split at hv
        ·cases hv
        ·rename_i hs; simpa using hs
       ·cases hv
      obtain ⟨b,o,q⟩:=A
      simp only at hsp
      subst hsp
      have hadd:∀ i j,((⟨b,o,none⟩:Addr).add (i * P.cellsOf e)).add j=⟨b,o + (i * P.cellsOf e + j),none⟩:=fun i j=>by
       rw [Go.Deep.add_add]
       unfold Addr.add
       split
       ·rename_i h0; simp [h0]
       ·rfl
      have hll:len=((List.range len).map f).length:=by simp
      generalize hrows:(List.range len).map f=rows at *
      subst hll
      refine .lst _ rows b o cap (fun i j=>(w.cell? ⟨b,o + (i * P.cellsOf e + j),none⟩).getD Go.undef) hl (fun r hr=>?_) (fun i j r c hr hc=>?_) (fun i j r c hr hc=>?_)
      ·obtain ⟨i,hi⟩:=List.mem_iff_getElem?.1 hr
       obtain ⟨h1,rfl⟩:=hget i r hi
       exact (hf i h1).2.1
      ·obtain ⟨h1,rfl⟩:=hget i r hr
       have:=(hf i h1).2.2 j c hc
       rw [hadd] at this
       exact ⟨this.1,by show WO _ (Γ b); rw [hΓ]; trivial,this.2.2.2.1⟩
      ·obtain ⟨h1,rfl⟩:=hget i r hr
       have:=(hf i h1).2.2 j c hc
       rw [hadd] at this
       exact this.2.1
     ·have h0:len=0:=by
       rcases Nat.eq_zero_or_pos len with h0 | h0
       ·exact h0
       ·refine absurd ⟨0,0,(f 0)[0]'(by have:=(hf 0 h0).2.1; have:=ho.1.1; omega),h0,List.getElem?_eq_getElem _⟩ hex
      subst h0
      exact .lstE _ A cap
  case struct fs =>
   simp only [Bool.and_eq_true] at ho
   obtain ⟨xs,n',hn,rfl,hlen,hxl,hf⟩:=DataW.trod_struct hu h
   obtain ⟨_,az,l1,s1,r1⟩:=AO n n' cs (fun t cs x=>PE hΓ n n' t cs x) fs.toList xs 0 _ ho.1 hlen.symm ho.2 fun i f hf'=>by
    have hi':fs[i]? = some f:=by simpa using hf'
    have:=hf i f hi'
    have hlt:i < xs.length:=by rw [hxl]; exact (Array.getElem?_eq_some_iff.1 hi').1
    rw [List.getElem?_eq_getElem hlt] at this
    refine ⟨_,List.getElem?_eq_getElem hlt,this,fun y hy=>hwt y ?_⟩
    simp only [DataW.weights,hu]
    exact DataW.weights_mem_each (j := i) (t := f.type) (d := (xs[i]'hlt).1) (by simp [hi']) (by simp [List.getElem?_eq_getElem hlt]) y hy
   refine ⟨az,(hS _ _).mpr ⟨by omega,_,rfl,by simpa using hxl,fun i f hf'=>?_⟩,by omega,fun j a hj=>by simpa using r1 j a hj⟩
   obtain ⟨_,x,hx,hsx⟩:=s1 i f hf'
   exact ⟨x.1,by simp [hx],by simpa using hsx⟩
theorem arg_stays {t:TypeId}{v:Value}{d:DataW H}{ps:List MemPlace}{W W':World}(hl:laidOutB P=true)(hr:P.readableRec t=true)(hrow:t < P.types.size)(h:DataW.Trod enc P W 0 (fun _=>true) true t v d ps)(hb:Below W.heap.size W W')(hlt:∀ p ∈ ps,p.block < W.heap.size) :
  DataW.Trod enc P W' 0 (fun b=>decide (b < W.heap.size)) true t v d ps :=
 WideElems.Trod_stays hl hr hrow h (fun p hp=>hb.same (hlt p hp)) (fun p hp=>by simpa using hlt p hp)
end Go.Proofs.YtleomfgijkapfaaGreatDoor.Abs
end
section
namespace Go.Proofs.YtleomfgijkapfaaGreatDoor.Abs
open Go Go.RowKit Go.ChangeShapes Go.WideShapes Go.Deep
def ZkZ (P:Program)(S:List TypeId):Bool :=
 S.all fun t=>match P.underlying t with
  | some .bool=>true
  | some (.int _)=>true
  | some .string=>true
  | some (.slice e)=>(decide (0 < P.cellsOf e) && decide (0 < P.bytesOf e)) && S.contains e
  | some (.struct fs)=>Ze6 P fs.toList 0 (P.cellsOf t) && fs.toList.all fun f=>S.contains f.type
  | _=>false
inductive KL {H:Type}(P:Program):TypeId→List AV→DataW H→Prop
 | bool (t:TypeId) (b:Bool) (hu:P.underlying t=some .bool):KL P t [.bool b] (.lit (.bool b))
 | int (t:TypeId) (k:IntKind) (x:Int) (hu:P.underlying t=some (.int k)) (hw:(Lit.int k x).wf=true):KL P t [.int k x] (.lit (.int k x))
 | str (t:TypeId) (s:List UInt8) (hu:P.underlying t=some .string) (hl:s.length≤140737488351232):KL P t [.str s] (.lit (.string s))
 | nil (t e:TypeId) (hu:P.underlying t=some (.slice e)):KL P t [.lst (P.cellsOf e) []] .nil
 | slice (t e:TypeId) (rows:List (List AV)) (D:Nat→DataW H) (spare:List (DataW H)) (hu:P.underlying t=some (.slice e)) (hl:rows.length * P.bytesOf e≤140737488351232) (h:∀ (i:Nat) (r:List AV),rows[i]? = some r→KL P e r (D i)) :
   KL P t [.lst (P.cellsOf e) rows] (.slice ((List.range rows.length).map D) spare)
 | struct (t:TypeId) (fs:Array Field) (cs:List AV) (D:Nat→DataW H) (hu:P.underlying t=some (.struct fs)) (hl:cs.length=P.cellsOf t)
   (h:∀ (i:Nat) (f:Field),fs.toList[i]? = some f→KL P f.type ((cs.drop f.offset).take (P.cellsOf f.type)) (D i)):KL P t cs (.agg ((List.range fs.size).map D))
section
variable {H:Type}{P:Program}{t:TypeId}{cs:List AV}{d:DataW H}
theorem KL.toBool (h:KL P t cs d)(hu:P.underlying t=some .bool):∃ b,cs=[.bool b]∧d=.lit (.bool b):=by
 cases h <;> rename_i h2 <;> first | exact ⟨_,rfl,rfl⟩ | (simp_all; done)
theorem KL.toInt (h:KL P t cs d){k:IntKind}(hu:P.underlying t=some (.int k)):∃ x,cs=[.int k x]∧d=.lit (.int k x)∧k.min≤x∧x≤k.max:=by
 cases h with
 | int _ k' x h1 hw =>
  rw [hu] at h1; cases h1
  simp only [Lit.wf,Bool.and_eq_true,decide_eq_true_eq] at hw
  exact ⟨x,rfl,rfl,hw⟩
 | _=>simp_all
theorem KL.toI64 (h:KL P t cs d)(hu:P.underlying t=some (.int .i64)):∃ x,cs=[.int .i64 x]∧d=.lit (.int .i64 x)∧-9223372036854775808≤x∧x≤9223372036854775807:=by
 obtain ⟨x,h1,h2,h3⟩:=h.toInt hu
 exact ⟨x,h1,h2,by simpa [IntKind.min,IntKind.max,IntKind.signed,IntKind.bits] using h3⟩
theorem KL.toStr (h:KL P t cs d)(hu:P.underlying t=some .string):∃ s,cs=[.str s]∧d=.lit (.string s)∧s.length≤140737488351232:=by
 cases h with
 | str _ s h1 hl=>exact ⟨s,rfl,rfl,hl⟩
 | _=>simp_all
theorem KL.toSlice (h:KL P t cs d){e:TypeId}(hu:P.underlying t=some (.slice e)):∃ rows,cs=[.lst (P.cellsOf e) rows]∧rows.length * P.bytesOf e≤140737488351232∧∃ D:Nat→DataW H,(∀ (i:Nat) (r:List AV),rows[i]? = some r→KL P e r (D i))∧((rows=[]∧d=.nil)∨∃ spare,d=.slice ((List.range rows.length).map D) spare):=by
 cases h with
 | nil _ e' h1=>rw [hu] at h1; cases h1; exact ⟨[],rfl,by simp,fun _=>.nil,fun i r hr=>by simp at hr,.inl ⟨rfl,rfl⟩⟩
 | slice _ e' rows D spare h1 hl h=>rw [hu] at h1; cases h1; exact ⟨rows,rfl,hl,D,h,.inr ⟨spare,rfl⟩⟩
 | _=>simp_all
theorem KL.toStruct (h:KL P t cs d){fs:Array Field}(hu:P.underlying t=some (.struct fs)):cs.length=P.cellsOf t∧∃ D:Nat→DataW H,d=.agg ((List.range fs.size).map D)∧∀ (i:Nat) (f:Field),fs.toList[i]? = some f→KL P f.type ((cs.drop f.offset).take (P.cellsOf f.type)) (D i):=by
 cases h with
 | struct _ fs' _ D h1 hl h=>rw [hu] at h1; cases h1; exact ⟨hl,D,rfl,h⟩
 | _=>simp_all
end
def Of (P:Program)(t:TypeId)(cs:List AV):Prop:=∃ (H:Type) (d:DataW H),KL P t cs d
theorem KL.of {H:Type}{P:Program}{t:TypeId}{cs:List AV}{d:DataW H}(h:KL P t cs d):Of P t cs:=⟨H,d,h⟩
theorem Of.toBool {P:Program}{t:TypeId}{cs:List AV}(h:Of P t cs)(hu:P.underlying t=some .bool):∃ b,cs=[.bool b]:=by
 obtain ⟨H,d,h⟩:=h; obtain ⟨b,h1,_⟩:=h.toBool hu; exact ⟨b,h1⟩
theorem Of.toInt {P:Program}{t:TypeId}{cs:List AV}(h:Of P t cs){k:IntKind}(hu:P.underlying t=some (.int k)):∃ x,cs=[.int k x]∧k.min≤x∧x≤k.max:=by
 obtain ⟨H,d,h⟩:=h; obtain ⟨x,h1,_,h2⟩:=h.toInt hu; exact ⟨x,h1,h2⟩
theorem Of.toI64 {P:Program}{t:TypeId}{cs:List AV}(h:Of P t cs)(hu:P.underlying t=some (.int .i64)):∃ x,cs=[.int .i64 x]∧-9223372036854775808≤x∧x≤9223372036854775807:=by
 obtain ⟨H,d,h⟩:=h; obtain ⟨x,h1,_,h2⟩:=h.toI64 hu; exact ⟨x,h1,h2⟩
theorem Of.toStr {P:Program}{t:TypeId}{cs:List AV}(h:Of P t cs)(hu:P.underlying t=some .string):∃ s,cs=[.str s]∧s.length≤140737488351232:=by
 obtain ⟨H,d,h⟩:=h; obtain ⟨x,h1,_,h2⟩:=h.toStr hu; exact ⟨x,h1,h2⟩
theorem Of.toSlice {P:Program}{t:TypeId}{cs:List AV}(h:Of P t cs){e:TypeId}(hu:P.underlying t=some (.slice e)):∃ rows,cs=[.lst (P.cellsOf e) rows]∧rows.length * P.bytesOf e≤140737488351232∧∀ r ∈ rows,Of P e r:=by
 obtain ⟨H,d,h⟩:=h
 obtain ⟨rows,h1,h2,D,h3,_⟩:=h.toSlice hu
 exact ⟨rows,h1,h2,fun r hr=>by obtain ⟨i,hi⟩:=List.mem_iff_getElem?.1 hr; exact (h3 i r hi).of⟩
theorem Of.toStruct {P:Program}{t:TypeId}{cs:List AV}(h:Of P t cs){fs:Array Field}(hu:P.underlying t=some (.struct fs)):cs.length=P.cellsOf t∧∀ (i:Nat) (f:Field),fs.toList[i]? = some f→Of P f.type ((cs.drop f.offset).take (P.cellsOf f.type)):=by
 obtain ⟨H,d,h⟩:=h
 obtain ⟨h1,D,_,h2⟩:=h.toStruct hu
 exact ⟨h1,fun i f hf=>(h2 i f hf).of⟩
variable {H:Type}{enc:TypeId×Value→H}{P:Program}{w:World}{base:Nat}{sp:Nat→Bool}{held:Bool}{Γ:Zo}
theorem ZdG {t e:TypeId}{fuel:Nat}{cs:List Value}{x:DataW H×List MemPlace}(ht:P.underlying t=some (.slice e))(h:DataW.trod enc P w base sp held (fuel + 1) t cs=some x) :
  (cs=[.slice none 0 0]∧x=(.nil,[])) ∨
  ∃ (a:Addr) (len cap m n:Nat) (D:Nat→DataW H) (Pl:Nat→List MemPlace),n=fuel∧cs=[.slice (some a) len cap]∧base≤a.block∧len≤cap∧cap≤maxLen∧m=(if sp a.block then cap else len) ∧
   x=(.slice ((List.range len).map D) ((List.range (m - len)).map fun j=>D (len + j)),MemPlace.row a (m * P.cellsOf e) ++ (List.range m).flatMap Pl) ∧
   ∀ i,i < m→∃ cs',w.cells? base (a.add (i * P.cellsOf e)) (P.cellsOf e)=some cs'∧DataW.trod enc P w base sp held n e cs'=some (D i,Pl i):=by
 rcases DataW.trod_slice ht h with h0 | ⟨a,len,cap,elems,rest,n,hn,rfl,rfl,hb,hl,hm,hlen,hel,hsp,hns⟩
 ·exact Or.inl h0
 right
 have hrl:rest.length=(if sp a.block then cap else len) - len:=by
  cases hs:sp a.block with
  | true=>simpa [hs] using (hsp hs).1
  | false=>simp [hns hs]
 have hle:len≤(if sp a.block then cap else len):=by split <;> omega
 have hall:(elems ++ rest).length=(if sp a.block then cap else len):=by rw [List.length_append,hlen,hrl]; omega
 refine ⟨a,len,cap,_,n,fun i=>((elems ++ rest).getD i (.nil,[])).1,fun i=>((elems ++ rest).getD i (.nil,[])).2,by omega,rfl,hb,hl,hm,rfl,?_,?_⟩
 ·refine Prod.ext ?_ ?_
  ·show DataW.slice (elems.map (·.1)) (rest.map (·.1))=_
   congr 1
   ·rw [map_by_index elems (.nil,[]) (·.1),hlen]
    refine List.map_congr_left fun i hi=>?_
    have hi':i < elems.length:=by rw [hlen]; simpa using hi
    simp [List.getD,List.getElem?_append_left hi']
   ·rw [map_by_index rest (.nil,[]) (·.1),hrl]
    refine List.map_congr_left fun j _=>?_
    simp [List.getD,List.getElem?_append_right (show elems.length≤len + j by omega),hlen]
  ·show MemPlace.row a ((elems.length + rest.length) * P.cellsOf e) ++ (elems ++ rest).flatMap (·.2)=_
   rw [flatMap_by_index (elems ++ rest) (.nil,[]) (·.2),hall,← List.length_append,hall]
 ·intro i hi
  have key:(w.cells? base (a.add (i * P.cellsOf e)) (P.cellsOf e)).bind (DataW.trod enc P w base sp held n e)=(elems ++ rest)[i]?:=by
   by_cases hil:i < len
   ·rw [hel i hil,List.getElem?_append_left (by omega)]
   ·have hs:sp a.block=true:=by
     cases hs:sp a.block with
     | true=>rfl
     | false=>simp [hs] at hi; omega
    have:=(hsp hs).2 (i - len) (by simp [hs] at hi; omega)
    rw [show len + (i - len)=i by omega] at this
    rw [this,List.getElem?_append_right (by omega),hlen]
  rw [List.getElem?_eq_getElem (by omega)] at key
  obtain ⟨cs',h1,h2⟩:=Option.bind_eq_some_iff.1 key
  refine ⟨cs',h1,?_⟩
  rw [h2]
  simp [List.getD,List.getElem?_eq_getElem (show i < (elems ++ rest).length by omega)]
theorem PS (S:List TypeId)(fuel:Nat)(cs:List Value)
  (ih:∀ (t:TypeId) (cs:List Value) (x:DataW H×List MemPlace),S.contains t=true→DataW.trod enc P w base sp held fuel t cs=some x→(∀ y ∈ x.1.weights P t,y≤reachBytes)→∃ az:List AV,KL P t az x.1∧az.length=cs.length∧∀ j a,az[j]? = some a→Xo Γ w a (cs.getD j Go.undef)) :
  ∀ (fs:List Field) (xs:List (DataW H×List MemPlace)) (o m:Nat),Ze6 P fs o m=true→m=cs.length→(fs.all fun f=>S.contains f.type)=true→(∀ (i:Nat) (f:Field),fs[i]? = some f→∃ x,xs[i]? = some x∧DataW.trod enc P w base sp held fuel f.type ((cs.drop f.offset).take (P.cellsOf f.type))=some x∧∀ y ∈ x.1.weights P f.type,y≤reachBytes) →
   o≤m∧∃ az:List AV,az.length=m - o∧(∀ (i:Nat) (f:Field),fs[i]? = some f→o≤f.offset∧∃ x,xs[i]? = some x∧KL P f.type ((az.drop (f.offset - o)).take (P.cellsOf f.type)) x.1)∧∀ j a,az[j]? = some a→Xo Γ w a (cs.getD (o + j) Go.undef)
 | [],xs,o,m,ht,hm,_,_=>by
  have:o=m:=by simpa [Ze6] using ht
  subst this
  exact ⟨Nat.le_refl _,[],by simp,fun i f hf=>by simp at hf,fun j a h=>by simp at h⟩
 | f :: r,xs,o,m,ht,hm,hok,hx=>by
  simp only [Ze6,Bool.and_eq_true,beq_iff_eq] at ht
  simp only [List.all_cons,Bool.and_eq_true] at hok
  obtain ⟨x,hx0,hxf,hxw⟩:=hx 0 f rfl
  obtain ⟨xs,rfl⟩:∃ xs',xs=x :: xs':=by
   cases xs with
   | nil=>simp at hx0
   | cons y ys=>simp at hx0; exact ⟨ys,by rw [hx0]⟩
  obtain ⟨hle,az,hl,hs,hr⟩:=PS S fuel cs ih r xs _ m ht.2 hm hok.2 (fun i g hg=>hx (i + 1) g hg)
  obtain ⟨a1,s1,l1,r1⟩:=ih _ _ _ hok.1 hxf hxw
  have hlen:((cs.drop f.offset).take (P.cellsOf f.type)).length=P.cellsOf f.type:=by
   rw [List.length_take,List.length_drop]; omega
  rw [hlen] at l1
  refine ⟨by omega,a1 ++ az,by rw [List.length_append]; omega,fun i g hg=>?_,fun j a hj=>?_⟩
  ·cases i with
   | zero =>
    simp only [List.getElem?_cons_zero,Option.some.injEq] at hg
    subst hg
    refine ⟨by omega,x,rfl,?_⟩
    rw [ht.1,Nat.sub_self,List.drop_zero,List.take_append_of_le_length (by omega),List.take_of_length_le (by omega)]
    exact s1
   | succ i =>
    simp only [List.getElem?_cons_succ] at hg
    obtain ⟨q1,q2⟩:=hs i g hg
    refine ⟨by omega,?_⟩
    rw [List.drop_append,List.drop_eq_nil_of_le (by omega),List.nil_append,l1]
    rw [show g.offset - o - P.cellsOf f.type=g.offset - (o + P.cellsOf f.type) by omega]
    simpa using q2
  ·by_cases hj2:j < a1.length
   ·rw [List.getElem?_append_left hj2] at hj
    have:=r1 j a hj
    have e:((cs.drop f.offset).take (P.cellsOf f.type)).getD j Go.undef=cs.getD (o + j) Go.undef:=by
     rw [List.getD_eq_getElem?_getD,List.getD_eq_getElem?_getD,List.getElem?_take_of_lt (by omega),List.getElem?_drop,ht.1]
    rwa [e] at this
   ·rw [List.getElem?_append_right (by omega)] at hj
    have:=hr _ a hj
    rwa [show o + P.cellsOf f.type + (j - a1.length)=o + j by omega] at this
theorem MW (hΓ:∀ b,Γ b=.imm){S:List TypeId}(hS:ZkZ P S=true):∀ (fuel:Nat) (t:TypeId) (cs:List Value) (x:DataW H×List MemPlace),S.contains t=true→DataW.trod enc P w base sp held fuel t cs=some x→(∀ y ∈ x.1.weights P t,y≤reachBytes) →
  ∃ az:List AV,KL P t az x.1∧az.length=cs.length∧∀ j a,az[j]? = some a→Xo Γ w a (cs.getD j Go.undef)
 | 0,_,_,_,_,h,_=>by cases h
 | fuel + 1,t,cs,x,hc,h,hwt=>by
  have ho:=List.all_eq_true.1 hS t (by simpa using hc)
  cases hu:P.underlying t with
  | none=>simp [hu] at ho
  | some d =>
  have one:∀ (c:AV) (v:Value),Xo Γ w c v→∀ j a,[c][j]? = some a→Xo Γ w a ([v].getD j Go.undef):=fun c v hc j a hj=>by
   match j,hj with
   | 0,hj=>cases hj; exact hc
   | j + 1,hj=>simp at hj
  cases d <;> simp only [hu,Bool.false_eq_true] at ho
  case bool =>
   obtain ⟨b,rfl,rfl⟩:=DataW.trod_bool hu h
   exact ⟨[.bool b],.bool t b hu,rfl,one _ _ ⟨.bool b,rfl,rfl,fun k r e=>by cases e⟩⟩
  case int k =>
   obtain ⟨x,rfl,rfl,hw⟩:=DataW.trod_int hu h
   exact ⟨[.int k x],.int t k x hu hw,rfl,one _ _ ⟨.int k x,rfl,rfl,fun k r e=>by cases e⟩⟩
  case string =>
   obtain ⟨b,rfl,rfl,hb⟩:=DataW.trod_string hu h
   have e:b=⟨b.data.toList.toArray⟩:=by cases b; simp
   refine ⟨[.str b.data.toList],.str t _ hu (Dc (hwt _ (by simp [DataW.weights]))),rfl,one _ _ ⟨?_,rfl,rfl,fun k r e=>by cases e⟩⟩
   have:Rep Γ w (.str b.data.toList) (.string ⟨b.data.toList.toArray⟩):=.str _
   rwa [← e] at this
  case slice e =>
   simp only [Bool.and_eq_true,decide_eq_true_eq] at ho
   rcases ZdG hu h with ⟨rfl,rfl⟩ | ⟨A,len,cap,m,n',D,Pl,hn',rfl,hb,hl,hm,hmm,rfl,hi⟩
   ·exact ⟨[.lst (P.cellsOf e) []],.nil t e hu,rfl,one _ _ ⟨.lstNil _,rfl,rfl,fun k r e=>by cases e⟩⟩
   ·have hlm:len≤m:=by rw [hmm]; split <;> omega
    have hwe:∀ i,i < len→∀ y ∈ (D i).weights P e,y≤reachBytes:=fun i hi y hy=>by
     refine hwt y ?_
     simp only [DataW.weights,hu]
     exact List.mem_cons_of_mem _ (List.mem_append_left _ (ZeG (List.mem_map.2 ⟨i,by simpa using hi,rfl⟩) hy))
    have hlr:len * P.bytesOf e≤140737488351232:=by
     refine Dc (Nat.le_trans ?_ (hwt ((((List.range len).map D).length + ((List.range (m - len)).map fun j=>D (len + j)).length) * P.bytesOf e) ?_))
     ·simp only [List.length_map,List.length_range]
      exact Nat.mul_le_mul_right _ (Nat.le_add_right _ _)
     ·simp only [DataW.weights,hu]
      exact List.mem_cons_self ..
    have hrow:∀ i,∃ r:List AV,i < len→KL P e r (D i)∧r.length=P.cellsOf e∧∀ j a,r[j]? = some a→w.cell? ((A.add (i * P.cellsOf e)).add j)=some ((w.cell? ((A.add (i * P.cellsOf e)).add j)).getD Go.undef)∧Xo Γ w a ((w.cell? ((A.add (i * P.cellsOf e)).add j)).getD Go.undef):=fun i=>by
     by_cases hil:i < len
     ·obtain ⟨cs',hc,ht⟩:=hi i (by omega)
      obtain ⟨_,hlen,hcell⟩:=World.cells?_some hc
      obtain ⟨r,s1,l1,r1⟩:=MW hΓ hS n' e cs' _ ho.2 ht (hwe i hil)
      refine ⟨r,fun _=>⟨s1,by omega,fun j a hj=>?_⟩⟩
      have hjl:j < r.length:=(List.getElem?_eq_some_iff.1 hj).1
      have hc2:=hcell j (by omega)
      have hr:=r1 j a hj
      rw [List.getElem?_eq_getElem (by omega)] at hc2
      rw [List.getD_eq_getElem?_getD,List.getElem?_eq_getElem (by omega)] at hr
      rw [hc2]
      exact ⟨rfl,hr⟩
     ·exact ⟨[],fun h=>absurd h hil⟩
    have hf:∃ f:Nat→List AV,∀ i,i < len→KL P e (f i) (D i)∧(f i).length=P.cellsOf e∧∀ j a,(f i)[j]? = some a→w.cell? ((A.add (i * P.cellsOf e)).add j)=some ((w.cell? ((A.add (i * P.cellsOf e)).add j)).getD Go.undef)∧Xo Γ w a ((w.cell? ((A.add (i * P.cellsOf e)).add j)).getD Go.undef) :=
     ⟨fun i=>(hrow i).choose,fun i=>(hrow i).choose_spec⟩
    obtain ⟨f,hf⟩:=hf
    have hget:∀ (i:Nat) (r:List AV),((List.range len).map f)[i]? = some r→i < len∧r=f i:=fun i r hr=>by
     rw [List.getElem?_map] at hr
     obtain ⟨i',hi',rfl⟩:=Option.map_eq_some_iff.1 hr
     have hlt:=(List.getElem?_eq_some_iff.1 hi').1
     rw [List.length_range] at hlt
     rw [List.getElem?_range hlt] at hi'
     obtain rfl:=Option.some.inj hi'
     exact ⟨hlt,rfl⟩
    have hlenf:((List.range len).map f).length=len:=by simp
    have hsl:=KL.slice (P := P) t e ((List.range len).map f) D ((List.range (m - len)).map fun j=>D (len + j)) hu (by simpa using hlr) (fun i r hr=>by obtain ⟨h1,rfl⟩:=hget i r hr; exact (hf i h1).1)
    rw [hlenf] at hsl
    refine ⟨[.lst (P.cellsOf e) ((List.range len).map f)],hsl,rfl,one _ _ ⟨?_,rfl,rfl,fun k r e=>by cases e⟩⟩
    ·by_cases hex:∃ (i j:Nat) (a:AV),i < len∧(f i)[j]? = some a
     ·obtain ⟨i0,j0,a0,hi0,hj0⟩:=hex
      have h0:∃ v,w.cell? A=some v:=by
       have hj0l:j0 < (f i0).length:=(List.getElem?_eq_some_iff.1 hj0).1
       have hpos:0 < P.cellsOf e:=by have:=(hf i0 hi0).2.1; omega
       have hz:=(hf 0 (by omega)).2.1
       have:=((hf 0 (by omega)).2.2 0 ((f 0)[0]'(by omega)) (List.getElem?_eq_getElem _)).1
       rw [Nat.zero_mul] at this
       have e1:(A.add 0).add 0=A:=by simp [Addr.add]
       rw [e1] at this
       exact ⟨_,this⟩
      have hsp:A.spot=none:=by
       obtain ⟨v,hv⟩:=h0
       unfold World.cell? at hv
       split at hv
       ·split at hv
        ·cases hv
        ·rename_i hs; simpa using hs
       ·cases hv
      obtain ⟨b,o,q⟩:=A
      simp only at hsp
      subst hsp
      have hadd:∀ i j,((⟨b,o,none⟩:Addr).add (i * P.cellsOf e)).add j=⟨b,o + (i * P.cellsOf e + j),none⟩:=fun i j=>by
       rw [Go.Deep.add_add]
       unfold Addr.add
       split
       ·rename_i h0; simp [h0]
       ·rfl
      have hll:len=((List.range len).map f).length:=by simp
      generalize hrows:(List.range len).map f=rows at *
      subst hll
      refine .lst _ rows b o cap (fun i j=>(w.cell? ⟨b,o + (i * P.cellsOf e + j),none⟩).getD Go.undef) hl (fun r hr=>?_) (fun i j r c hr hc=>?_) (fun i j r c hr hc=>?_)
      ·obtain ⟨i,hi⟩:=List.mem_iff_getElem?.1 hr
       obtain ⟨h1,rfl⟩:=hget i r hi
       exact (hf i h1).2.1
      ·obtain ⟨h1,rfl⟩:=hget i r hr
       have:=(hf i h1).2.2 j c hc
       rw [hadd] at this
       exact ⟨this.1,by show WO _ (Γ b); rw [hΓ]; trivial,this.2.2.2.1⟩
      ·obtain ⟨h1,rfl⟩:=hget i r hr
       have:=(hf i h1).2.2 j c hc
       rw [hadd] at this
       exact this.2.1
     ·have h0:len=0:=by
       rcases Nat.eq_zero_or_pos len with h0 | h0
       ·exact h0
       ·refine absurd ⟨0,0,(f 0)[0]'(by have:=(hf 0 h0).2.1; have:=ho.1.1; omega),h0,List.getElem?_eq_getElem _⟩ hex
      subst h0
      exact .lstE _ A cap
  case struct fs =>
   simp only [Bool.and_eq_true] at ho
   obtain ⟨xs,n',hn,rfl,hlen,hxl,hf⟩:=DataW.trod_struct hu h
   obtain ⟨_,az,l1,s1,r1⟩:=PS S n' cs (fun t cs x=>MW hΓ hS n' t cs x) fs.toList xs 0 _ ho.1 hlen.symm ho.2 fun i f hf'=>by
    have hi':fs[i]? = some f:=by simpa using hf'
    have:=hf i f hi'
    have hlt:i < xs.length:=by rw [hxl]; exact (Array.getElem?_eq_some_iff.1 hi').1
    rw [List.getElem?_eq_getElem hlt] at this
    refine ⟨_,List.getElem?_eq_getElem hlt,this,fun y hy=>hwt y ?_⟩
    simp only [DataW.weights,hu]
    exact DataW.weights_mem_each (j := i) (t := f.type) (d := (xs[i]'hlt).1) (by simp [hi']) (by simp [List.getElem?_eq_getElem hlt]) y hy
   have hst:=KL.struct (P := P) t fs az (fun i=>((xs.map (·.1))[i]?).getD .nil) hu (by omega) fun i f hf'=>by
    obtain ⟨_,x,hx,hsx⟩:=s1 i f hf'
    simpa [hx] using hsx
   have hds:(List.range fs.size).map (fun i=>((xs.map (·.1))[i]?).getD .nil)=xs.map (·.1):=by
    refine List.ext_getElem? fun i=>?_
    rw [List.getElem?_map]
    by_cases hi:i < fs.size
    ·rw [List.getElem?_range hi,Option.map_some,List.getElem?_map,List.getElem?_eq_getElem (by omega)]; rfl
    ·rw [List.getElem?_eq_none (by simpa using hi),List.getElem?_eq_none (by simp; omega)]; rfl
   rw [hds] at hst
   exact ⟨az,hst,by omega,fun j a hj=>by simpa using r1 j a hj⟩
theorem argS_struct (hΓ:∀ b,Γ b=.imm){S:List TypeId}(hS:ZkZ P S=true){r:Reach}{b0:Nat}{t:TypeId}{fs:Array Field}{v:Value}{d:DataW H}{ps:List MemPlace}(hc:S.contains t=true)(hu:P.underlying t=some (.struct fs))(hv:Value.okWide P w r b0 t v)
  (h:DataW.Trod enc P w base sp held t v d ps) (hw:∀ y ∈ d.weights P t,y≤reachBytes):∃ az,Rep Γ w (.agg az) v∧KL P t az d:=by
 obtain ⟨cs,rfl,hsz⟩:=okWide_struct hu hv
 obtain ⟨fuel,hf⟩:=h
 obtain ⟨az,s1,l1,r1⟩:=MW hΓ hS fuel t _ _ hc hf hw
 have l2:az.length=cs.size:=by rw [l1]; rfl
 refine ⟨az,.agg az cs l2.symm (fun j c hc=>(r1 j c hc).2.1) (fun j k r hc=>absurd rfl ((r1 j _ hc).2.2.2 k r)) (fun j c hc=>?_),s1⟩
 have:=(r1 j c hc).1
 have e:(Value.agg cs).cells.toList.getD j Go.undef=cs.getD j Go.undef:=by
  show cs.toList.getD j Go.undef=_
  simp [List.getD_eq_getElem?_getD,Array.getD_eq_getD_getElem?]
 rwa [e] at this
end Go.Proofs.YtleomfgijkapfaaGreatDoor.Abs
end
section
namespace Go.Proofs.YtleomfgijkapfaaGreatDoor
open Go Go.RowKit Go.Proofs.YtleomfgijkapfaaGreatDoor.Abs
set_option maxRecDepth 100000
set_option maxHeartbeats 0
theorem ZbT {α:Type _}{l:List α}{n:Nat}(h:l.length=n + 1):∃ a r,l=a :: r∧r.length=n:=by
 cases l with
 | nil=>simp at h
 | cons a r=>exact ⟨a,r,rfl,by simpa using h⟩
theorem YT {P:Program}{t:TypeId}{l M:List AV}{k n:Nat}(h:Of P t ((l.drop k).take (P.cellsOf t)))(hn:P.cellsOf t=n)(hm:(l.drop k).take n=M):Of P t M:=by rw [hn,hm] at h; exact h
theorem Zdz {α:Type _}{l:List α}{n:Nat}(h:l.length=n + 2):∃ a b r,l=a :: b :: r∧r.length=n:=by
 obtain ⟨a,r,rfl,h1⟩:=ZbT h
 obtain ⟨b,s,rfl,h2⟩:=ZbT h1
 exact ⟨a,b,s,rfl,h2⟩
theorem Zd0 {α:Type _}{l:List α}{n:Nat}(h:l.length=n + 3):∃ a b c r,l=a :: b :: c :: r∧r.length=n:=by
 obtain ⟨a,b,r,rfl,h1⟩:=Zdz h
 obtain ⟨c,s,rfl,h2⟩:=ZbT h1
 exact ⟨a,b,c,s,rfl,h2⟩
theorem XC {α:Type _}{l:List α}{n:Nat}(h:l.length=n + 4):∃ a b c d r,l=a :: b :: c :: d :: r∧r.length=n:=by
 obtain ⟨a,b,r,rfl,h1⟩:=Zdz h
 obtain ⟨c,d,s,rfl,h2⟩:=Zdz h1
 exact ⟨a,b,c,d,s,rfl,h2⟩
theorem Ziy {cs:List AV}{w k:Nat}{rows:List (List AV)}{r:List AV}(h1:AV.lst w rows ∈ cs)(h2:r ∈ rows)(h3:SizeOf.sizeOf cs≤k + 1):SizeOf.sizeOf r≤k:=by
 have a1:=List.sizeOf_lt_of_mem h1
 have a2:=List.sizeOf_lt_of_mem h2
 have a3:SizeOf.sizeOf (AV.lst w rows)=1 + SizeOf.sizeOf w + SizeOf.sizeOf rows:=by simp
 omega
theorem Yn {α:Type}{Q:List AV→Prop}{row:α→List AV}{ok:α→Prop}:∀ {rows:List (List AV)},(∀ r ∈ rows,Q r→∃ x,r=row x∧ok x)→(∀ r ∈ rows,Q r)→∃ l:List α,rows=l.map row∧∀ x ∈ l,ok x
 | [],_,_=>⟨[],rfl,fun x h=>by cases h⟩
 | r :: rs,hq,h=>by
  obtain ⟨x,h1,h2⟩:=hq r (List.mem_cons_self ..) (h r (List.mem_cons_self ..))
  obtain ⟨l,h3,h4⟩:=Yn (rows := rs) (fun y hy=>hq y (List.mem_cons_of_mem _ hy)) fun y hy=>h y (List.mem_cons_of_mem _ hy)
  exact ⟨x :: l,by rw [h1,h3]; rfl,fun y hy=>by
   rcases List.mem_cons.1 hy with rfl | hy
   ·exact h2
   ·exact h4 y hy⟩
def Zn8:List TypeId:=[25,9,22,58,55,46,140,124,3,47,166,162,231,164,75,72,73,48,169,167,49,171,50,51,65,62,126,63,122,120,71,68,69,4,52,175,53,179,177,233,56,32,30,77,67,23,60,84,81,82,202,97,95,152,87,216,282,306,299,301]
theorem Ti:ZkZ Tryz.prog Zn8=true:=by kernel_rfl
theorem Zde:Tryz.prog.bytesOf 3=8:=by kernel_rfl
theorem CE:Tryz.prog.cellsOf 3=1:=by kernel_rfl
theorem P7:Tryz.prog.bytesOf 9=16:=by kernel_rfl
theorem OO:Tryz.prog.cellsOf 9=1:=by kernel_rfl
theorem Zka:Tryz.prog.bytesOf 32=56:=by kernel_rfl
theorem ZhI:Tryz.prog.cellsOf 32=4:=by kernel_rfl
theorem Zkb:Tryz.prog.bytesOf 58=328:=by kernel_rfl
theorem ZhJ:Tryz.prog.cellsOf 58=14:=by kernel_rfl
theorem Zkc:Tryz.prog.bytesOf 60=24:=by kernel_rfl
theorem ZhK:Tryz.prog.cellsOf 60=3:=by kernel_rfl
theorem Zkd:Tryz.prog.bytesOf 65=88:=by kernel_rfl
theorem ZhL:Tryz.prog.cellsOf 65=4:=by kernel_rfl
theorem Cm:Tryz.prog.bytesOf 71=56:=by kernel_rfl
theorem PD:Tryz.prog.cellsOf 71=4:=by kernel_rfl
theorem Zke:Tryz.prog.bytesOf 77=256:=by kernel_rfl
theorem ZhM:Tryz.prog.cellsOf 77=20:=by kernel_rfl
theorem P6:Tryz.prog.bytesOf 122=312:=by kernel_rfl
theorem MV:Tryz.prog.cellsOf 122=21:=by kernel_rfl
theorem Zbz:Tryz.prog.bytesOf 126=24:=by kernel_rfl
theorem AA:Tryz.prog.cellsOf 126=2:=by kernel_rfl
theorem Zh7:Tryz.prog.bytesOf 140=32:=by kernel_rfl
theorem Zgr:Tryz.prog.cellsOf 140=3:=by kernel_rfl
theorem Zh8:Tryz.prog.bytesOf 166=232:=by kernel_rfl
theorem Zgs:Tryz.prog.cellsOf 166=17:=by kernel_rfl
theorem Zh9:Tryz.prog.bytesOf 169=32:=by kernel_rfl
theorem Zgt:Tryz.prog.cellsOf 169=3:=by kernel_rfl
theorem ZhA:Tryz.prog.bytesOf 171=32:=by kernel_rfl
theorem Zgu:Tryz.prog.cellsOf 171=3:=by kernel_rfl
theorem ZhB:Tryz.prog.bytesOf 175=64:=by kernel_rfl
theorem Zgv:Tryz.prog.cellsOf 175=5:=by kernel_rfl
theorem ZhC:Tryz.prog.bytesOf 179=48:=by kernel_rfl
theorem Zgw:Tryz.prog.cellsOf 179=3:=by kernel_rfl
theorem ZhD:Tryz.prog.bytesOf 231=16:=by kernel_rfl
theorem Zgx:Tryz.prog.cellsOf 231=2:=by kernel_rfl
theorem ZhE:Tryz.prog.bytesOf 233=40:=by kernel_rfl
theorem Zgy:Tryz.prog.cellsOf 233=3:=by kernel_rfl
theorem Zn6 {cs:List AV}(h:Of Tryz.prog 3 cs):∃ x:Int,cs=[.int .i64 x]∧(-9223372036854775808≤x∧x≤9223372036854775807):=h.toI64 Tryz.underlying3
theorem ZiM {cs:List AV}(h:Of Tryz.prog 9 cs):∃ x:List UInt8,cs=[.str x]∧x.length≤140737488351232:=h.toStr Tryz.underlying9
theorem ZkY {cs:List AV}(h:Of Tryz.prog 140 cs):∃ x,cs=NP x∧ZcR x:=by
 obtain ⟨hl,hf⟩:=h.toStruct Tryz.underlying140
 rw [show Tryz.prog.cellsOf 140=3 from by kernel_rfl] at hl
 obtain ⟨c0,c1,c2,r0,rfl,hl0⟩:=Zd0 hl
 obtain rfl:=List.eq_nil_of_length_eq_zero hl0
 have f0:Of Tryz.prog 9 [c0]:=YT (hf 0 _ rfl) (n := 1) (by kernel_rfl) rfl
 obtain ⟨v0,q0,b0⟩:=f0.toStr Tryz.underlying9
 have f1:Of Tryz.prog 124 [c1]:=YT (hf 1 _ rfl) (n := 1) (by kernel_rfl) rfl
 obtain ⟨v1,q1,b1⟩:=f1.toI64 Tryz.underlying124
 have f2:Of Tryz.prog 3 [c2]:=YT (hf 2 _ rfl) (n := 1) (by kernel_rfl) rfl
 obtain ⟨v2,q2,b2⟩:=f2.toI64 Tryz.underlying3
 refine ⟨⟨v0,v1,v2⟩,?_,⟨b0,b1,b2⟩⟩
 have hc:([c0,c1,c2]:List AV)=[c0] ++ [c1] ++ [c2]:=rfl
 rw [hc]
 rw [q0,q1,q2]
 rfl
theorem ZiL {cs:List AV}(h:Of Tryz.prog 231 cs):∃ x,cs=Lt x∧ZeJ x:=by
 obtain ⟨hl,hf⟩:=h.toStruct Tryz.underlying231
 rw [show Tryz.prog.cellsOf 231=2 from by kernel_rfl] at hl
 obtain ⟨c0,c1,r0,rfl,hl0⟩:=Zdz hl
 obtain rfl:=List.eq_nil_of_length_eq_zero hl0
 have f0:Of Tryz.prog 3 [c0]:=YT (hf 0 _ rfl) (n := 1) (by kernel_rfl) rfl
 obtain ⟨v0,q0,b0⟩:=f0.toI64 Tryz.underlying3
 have f1:Of Tryz.prog 3 [c1]:=YT (hf 1 _ rfl) (n := 1) (by kernel_rfl) rfl
 obtain ⟨v1,q1,b1⟩:=f1.toI64 Tryz.underlying3
 refine ⟨⟨v0,v1⟩,?_,⟨b0,b1⟩⟩
 have hc:([c0,c1]:List AV)=[c0] ++ [c1]:=rfl
 rw [hc]
 rw [q0,q1]
 rfl
theorem Zam {cs:List AV}(h:Of Tryz.prog 75 cs):∃ x,cs=Za4 x∧QE x:=by
 obtain ⟨hl,hf⟩:=h.toStruct Tryz.underlying75
 rw [show Tryz.prog.cellsOf 75=6 from by kernel_rfl] at hl
 obtain ⟨c0,c1,c2,c3,r0,rfl,hl0⟩:=XC hl
 obtain ⟨c4,c5,r4,rfl,hl4⟩:=Zdz hl0
 obtain rfl:=List.eq_nil_of_length_eq_zero hl4
 have f0:Of Tryz.prog 72 [c0]:=YT (hf 0 _ rfl) (n := 1) (by kernel_rfl) rfl
 obtain ⟨v0,q0,b0⟩:=f0.toI64 Tryz.underlying72
 have f1:Of Tryz.prog 3 [c1]:=YT (hf 1 _ rfl) (n := 1) (by kernel_rfl) rfl
 obtain ⟨v1,q1,b1⟩:=f1.toI64 Tryz.underlying3
 have f2:Of Tryz.prog 3 [c2]:=YT (hf 2 _ rfl) (n := 1) (by kernel_rfl) rfl
 obtain ⟨v2,q2,b2⟩:=f2.toI64 Tryz.underlying3
 have f3:Of Tryz.prog 3 [c3]:=YT (hf 3 _ rfl) (n := 1) (by kernel_rfl) rfl
 obtain ⟨v3,q3,b3⟩:=f3.toI64 Tryz.underlying3
 have f4:Of Tryz.prog 73 [c4]:=YT (hf 4 _ rfl) (n := 1) (by kernel_rfl) rfl
 obtain ⟨w4,q4,b4,m4⟩:=f4.toSlice Tryz.underlying73
 rw [CE] at q4
 rw [Zde] at b4
 obtain ⟨v4,e4,n4⟩:=Yn (row := (fun x=>[.int .i64 x])) (fun r hr hq=>Zn6 hq) m4
 replace b4:v4.length * 8≤140737488351232:=by rw [e4,List.length_map] at b4; exact b4
 have f5:Of Tryz.prog 73 [c5]:=YT (hf 5 _ rfl) (n := 1) (by kernel_rfl) rfl
 obtain ⟨w5,q5,b5,m5⟩:=f5.toSlice Tryz.underlying73
 rw [CE] at q5
 rw [Zde] at b5
 obtain ⟨v5,e5,n5⟩:=Yn (row := (fun x=>[.int .i64 x])) (fun r hr hq=>Zn6 hq) m5
 replace b5:v5.length * 8≤140737488351232:=by rw [e5,List.length_map] at b5; exact b5
 refine ⟨⟨v0,v1,v2,v3,v4,v5⟩,?_,⟨b0,b1,b2,b3,⟨b4,n4⟩,⟨b5,n5⟩⟩⟩
 have hc:([c0,c1,c2,c3,c4,c5]:List AV)=[c0] ++ [c1] ++ [c2] ++ [c3] ++ [c4] ++ [c5]:=rfl
 rw [hc]
 rw [q0,q1,q2,q3,q4,q5]
 rw [e4,e5]
 rfl
theorem ZkV {cs:List AV}(h:Of Tryz.prog 164 cs):∃ x,cs=Fv x∧Zhu x:=by
 obtain ⟨hl,hf⟩:=h.toStruct Tryz.underlying164
 rw [show Tryz.prog.cellsOf 164=13 from by kernel_rfl] at hl
 obtain ⟨c0,c1,c2,c3,r0,rfl,hl0⟩:=XC hl
 obtain ⟨c4,c5,c6,c7,r4,rfl,hl4⟩:=XC hl0
 obtain ⟨c8,c9,c10,c11,r8,rfl,hl8⟩:=XC hl4
 obtain ⟨c12,r12,rfl,hl12⟩:=ZbT hl8
 obtain rfl:=List.eq_nil_of_length_eq_zero hl12
 have f0:Of Tryz.prog 9 [c0]:=YT (hf 0 _ rfl) (n := 1) (by kernel_rfl) rfl
 obtain ⟨v0,q0,b0⟩:=f0.toStr Tryz.underlying9
 have f1:Of Tryz.prog 75 [c1,c2,c3,c4,c5,c6]:=YT (hf 1 _ rfl) (n := 6) (by kernel_rfl) rfl
 obtain ⟨v1,q1,b1⟩:=Zam f1
 have f2:Of Tryz.prog 75 [c7,c8,c9,c10,c11,c12]:=YT (hf 2 _ rfl) (n := 6) (by kernel_rfl) rfl
 obtain ⟨v2,q2,b2⟩:=Zam f2
 refine ⟨⟨v0,v1,v2⟩,?_,⟨b0,b1,b2⟩⟩
 have hc:([c0,c1,c2,c3,c4,c5,c6,c7,c8,c9,c10,c11,c12]:List AV)=[c0] ++ [c1,c2,c3,c4,c5,c6] ++ [c7,c8,c9,c10,c11,c12]:=rfl
 rw [hc]
 rw [q0,q1,q2]
 unfold Fv; simp only [List.append_assoc,List.cons_append,List.nil_append]
theorem Nw {cs:List AV}(h:Of Tryz.prog 166 cs):∃ x,cs=WS x∧Wj x:=by
 obtain ⟨hl,hf⟩:=h.toStruct Tryz.underlying166
 rw [show Tryz.prog.cellsOf 166=17 from by kernel_rfl] at hl
 obtain ⟨c0,c1,c2,c3,r0,rfl,hl0⟩:=XC hl
 obtain ⟨c4,c5,c6,c7,r4,rfl,hl4⟩:=XC hl0
 obtain ⟨c8,c9,c10,c11,r8,rfl,hl8⟩:=XC hl4
 obtain ⟨c12,c13,c14,c15,r12,rfl,hl12⟩:=XC hl8
 obtain ⟨c16,r16,rfl,hl16⟩:=ZbT hl12
 obtain rfl:=List.eq_nil_of_length_eq_zero hl16
 have f0:Of Tryz.prog 9 [c0]:=YT (hf 0 _ rfl) (n := 1) (by kernel_rfl) rfl
 obtain ⟨v0,q0,b0⟩:=f0.toStr Tryz.underlying9
 have f1:Of Tryz.prog 3 [c1]:=YT (hf 1 _ rfl) (n := 1) (by kernel_rfl) rfl
 obtain ⟨v1,q1,b1⟩:=f1.toI64 Tryz.underlying3
 have f2:Of Tryz.prog 162 [c2]:=YT (hf 2 _ rfl) (n := 1) (by kernel_rfl) rfl
 obtain ⟨w2,q2,b2,m2⟩:=f2.toSlice Tryz.underlying162
 rw [Zgx] at q2
 rw [ZhD] at b2
 obtain ⟨v2,e2,n2⟩:=Yn (row := Lt) (fun r hr hq=>ZiL hq) m2
 replace b2:v2.length * 16≤140737488351232:=by rw [e2,List.length_map] at b2; exact b2
 have f3:Of Tryz.prog 3 [c3]:=YT (hf 3 _ rfl) (n := 1) (by kernel_rfl) rfl
 obtain ⟨v3,q3,b3⟩:=f3.toI64 Tryz.underlying3
 have f4:Of Tryz.prog 164 [c4,c5,c6,c7,c8,c9,c10,c11,c12,c13,c14,c15,c16]:=YT (hf 4 _ rfl) (n := 13) (by kernel_rfl) rfl
 obtain ⟨v4,q4,b4⟩:=ZkV f4
 refine ⟨⟨v0,v1,v2,v3,v4⟩,?_,⟨b0,b1,⟨b2,n2⟩,b3,b4⟩⟩
 have hc:([c0,c1,c2,c3,c4,c5,c6,c7,c8,c9,c10,c11,c12,c13,c14,c15,c16]:List AV)=[c0] ++ [c1] ++ [c2] ++ [c3] ++ [c4,c5,c6,c7,c8,c9,c10,c11,c12,c13,c14,c15,c16]:=rfl
 rw [hc]
 rw [q0,q1,q2,q3,q4]
 rw [e2]
 unfold WS; simp only [List.append_assoc,List.cons_append,List.nil_append]
theorem Zcc {cs:List AV}(h:Of Tryz.prog 169 cs):∃ x,cs=Jc x∧Dq x:=by
 obtain ⟨hl,hf⟩:=h.toStruct Tryz.underlying169
 rw [show Tryz.prog.cellsOf 169=3 from by kernel_rfl] at hl
 obtain ⟨c0,c1,c2,r0,rfl,hl0⟩:=Zd0 hl
 obtain rfl:=List.eq_nil_of_length_eq_zero hl0
 have f0:Of Tryz.prog 9 [c0]:=YT (hf 0 _ rfl) (n := 1) (by kernel_rfl) rfl
 obtain ⟨v0,q0,b0⟩:=f0.toStr Tryz.underlying9
 have f1:Of Tryz.prog 3 [c1]:=YT (hf 1 _ rfl) (n := 1) (by kernel_rfl) rfl
 obtain ⟨v1,q1,b1⟩:=f1.toI64 Tryz.underlying3
 have f2:Of Tryz.prog 167 [c2]:=YT (hf 2 _ rfl) (n := 1) (by kernel_rfl) rfl
 obtain ⟨v2,q2,b2⟩:=f2.toI64 Tryz.underlying167
 refine ⟨⟨v0,v1,v2⟩,?_,⟨b0,b1,b2⟩⟩
 have hc:([c0,c1,c2]:List AV)=[c0] ++ [c1] ++ [c2]:=rfl
 rw [hc]
 rw [q0,q1,q2]
 rfl
theorem Zd6 {cs:List AV}(h:Of Tryz.prog 171 cs):∃ x,cs=Uw x∧Aa x:=by
 obtain ⟨hl,hf⟩:=h.toStruct Tryz.underlying171
 rw [show Tryz.prog.cellsOf 171=3 from by kernel_rfl] at hl
 obtain ⟨c0,c1,c2,r0,rfl,hl0⟩:=Zd0 hl
 obtain rfl:=List.eq_nil_of_length_eq_zero hl0
 have f0:Of Tryz.prog 9 [c0]:=YT (hf 0 _ rfl) (n := 1) (by kernel_rfl) rfl
 obtain ⟨v0,q0,b0⟩:=f0.toStr Tryz.underlying9
 have f1:Of Tryz.prog 3 [c1]:=YT (hf 1 _ rfl) (n := 1) (by kernel_rfl) rfl
 obtain ⟨v1,q1,b1⟩:=f1.toI64 Tryz.underlying3
 have f2:Of Tryz.prog 3 [c2]:=YT (hf 2 _ rfl) (n := 1) (by kernel_rfl) rfl
 obtain ⟨v2,q2,b2⟩:=f2.toI64 Tryz.underlying3
 refine ⟨⟨v0,v1,v2⟩,?_,⟨b0,b1,b2⟩⟩
 have hc:([c0,c1,c2]:List AV)=[c0] ++ [c1] ++ [c2]:=rfl
 rw [hc]
 rw [q0,q1,q2]
 rfl
theorem Zf4 {cs:List AV}(h:Of Tryz.prog 126 cs):∃ x,cs=RV x∧FN x:=by
 obtain ⟨hl,hf⟩:=h.toStruct Tryz.underlying126
 rw [show Tryz.prog.cellsOf 126=2 from by kernel_rfl] at hl
 obtain ⟨c0,c1,r0,rfl,hl0⟩:=Zdz hl
 obtain rfl:=List.eq_nil_of_length_eq_zero hl0
 have f0:Of Tryz.prog 9 [c0]:=YT (hf 0 _ rfl) (n := 1) (by kernel_rfl) rfl
 obtain ⟨v0,q0,b0⟩:=f0.toStr Tryz.underlying9
 have f1:Of Tryz.prog 124 [c1]:=YT (hf 1 _ rfl) (n := 1) (by kernel_rfl) rfl
 obtain ⟨v1,q1,b1⟩:=f1.toI64 Tryz.underlying124
 refine ⟨⟨v0,v1⟩,?_,⟨b0,b1⟩⟩
 have hc:([c0,c1]:List AV)=[c0] ++ [c1]:=rfl
 rw [hc]
 rw [q0,q1]
 rfl
theorem IU:∀ (k:Nat) {cs:List AV},SizeOf.sizeOf cs≤k→Of Tryz.prog 71 cs→∃ x,cs=X0 x∧ZL x
 | 0,cs,hk,h=>by
  obtain ⟨hl,_⟩:=h.toStruct Tryz.underlying71
  rw [show Tryz.prog.cellsOf 71=4 from by kernel_rfl] at hl
  cases cs with
  | nil=>simp at hl
  | cons a r=>simp at hk
 | k + 1,cs,hk,h=>by
  obtain ⟨hl,hf⟩:=h.toStruct Tryz.underlying71
  rw [show Tryz.prog.cellsOf 71=4 from by kernel_rfl] at hl
  obtain ⟨c0,c1,c2,c3,r0,rfl,hl0⟩:=XC hl
  obtain rfl:=List.eq_nil_of_length_eq_zero hl0
  have f0:Of Tryz.prog 68 [c0]:=YT (hf 0 _ rfl) (n := 1) (by kernel_rfl) rfl
  obtain ⟨v0,q0,b0⟩:=f0.toI64 Tryz.underlying68
  have f1:Of Tryz.prog 9 [c1]:=YT (hf 1 _ rfl) (n := 1) (by kernel_rfl) rfl
  obtain ⟨v1,q1,b1⟩:=f1.toStr Tryz.underlying9
  have f2:Of Tryz.prog 3 [c2]:=YT (hf 2 _ rfl) (n := 1) (by kernel_rfl) rfl
  obtain ⟨v2,q2,b2⟩:=f2.toI64 Tryz.underlying3
  have f3:Of Tryz.prog 69 [c3]:=YT (hf 3 _ rfl) (n := 1) (by kernel_rfl) rfl
  obtain ⟨w3,q3,b3,m3⟩:=f3.toSlice Tryz.underlying69
  rw [PD] at q3
  rw [Cm] at b3
  obtain ⟨v3,e3,n3⟩:=Yn (row := X0) (ok := ZL) (fun r hr hq=>IU k (Ziy (w := 4) (rows := w3) (by simp [(List.cons.inj q3).1]) hr hk) hq) m3
  replace b3:v3.length * 56≤140737488351232:=by rw [e3,List.length_map] at b3; exact b3
  refine ⟨⟨v0,v1,v2,v3⟩,?_,⟨_,b0,b1,b2,b3,n3⟩⟩
  have hc:([c0,c1,c2,c3]:List AV)=[c0] ++ [c1] ++ [c2] ++ [c3]:=rfl
  rw [hc]
  rw [q0,q1,q2,q3]
  rw [e3]
  rw [Za5]; rfl
theorem ZdA:∀ (k:Nat) {cs:List AV},SizeOf.sizeOf cs≤k→Of Tryz.prog 122 cs→∃ x,cs=Lu x∧Yo x
 | 0,cs,hk,h=>by
  obtain ⟨hl,_⟩:=h.toStruct Tryz.underlying122
  rw [show Tryz.prog.cellsOf 122=21 from by kernel_rfl] at hl
  cases cs with
  | nil=>simp at hl
  | cons a r=>simp at hk
 | k + 1,cs,hk,h=>by
  obtain ⟨hl,hf⟩:=h.toStruct Tryz.underlying122
  rw [show Tryz.prog.cellsOf 122=21 from by kernel_rfl] at hl
  obtain ⟨c0,c1,c2,c3,r0,rfl,hl0⟩:=XC hl
  obtain ⟨c4,c5,c6,c7,r4,rfl,hl4⟩:=XC hl0
  obtain ⟨c8,c9,c10,c11,r8,rfl,hl8⟩:=XC hl4
  obtain ⟨c12,c13,c14,c15,r12,rfl,hl12⟩:=XC hl8
  obtain ⟨c16,c17,c18,c19,r16,rfl,hl16⟩:=XC hl12
  obtain ⟨c20,r20,rfl,hl20⟩:=ZbT hl16
  obtain rfl:=List.eq_nil_of_length_eq_zero hl20
  have f0:Of Tryz.prog 120 [c0]:=YT (hf 0 _ rfl) (n := 1) (by kernel_rfl) rfl
  obtain ⟨v0,q0,b0⟩:=f0.toI64 Tryz.underlying120
  have f1:Of Tryz.prog 9 [c1]:=YT (hf 1 _ rfl) (n := 1) (by kernel_rfl) rfl
  obtain ⟨v1,q1,b1⟩:=f1.toStr Tryz.underlying9
  have f2:Of Tryz.prog 9 [c2]:=YT (hf 2 _ rfl) (n := 1) (by kernel_rfl) rfl
  obtain ⟨v2,q2,b2⟩:=f2.toStr Tryz.underlying9
  have f3:Of Tryz.prog 71 [c3,c4,c5,c6]:=YT (hf 3 _ rfl) (n := 4) (by kernel_rfl) rfl
  obtain ⟨v3,q3,b3⟩:=IU _ (Nat.le_refl _) f3
  have f4:Of Tryz.prog 71 [c7,c8,c9,c10]:=YT (hf 4 _ rfl) (n := 4) (by kernel_rfl) rfl
  obtain ⟨v4,q4,b4⟩:=IU _ (Nat.le_refl _) f4
  have f5:Of Tryz.prog 69 [c11]:=YT (hf 5 _ rfl) (n := 1) (by kernel_rfl) rfl
  obtain ⟨w5,q5,b5,m5⟩:=f5.toSlice Tryz.underlying69
  rw [PD] at q5
  rw [Cm] at b5
  obtain ⟨v5,e5,n5⟩:=Yn (row := X0) (ok := ZL) (fun r hr hq=>IU _ (Nat.le_refl _) hq) m5
  replace b5:v5.length * 56≤140737488351232:=by rw [e5,List.length_map] at b5; exact b5
  have f6:Of Tryz.prog 75 [c12,c13,c14,c15,c16,c17]:=YT (hf 6 _ rfl) (n := 6) (by kernel_rfl) rfl
  obtain ⟨v6,q6,b6⟩:=Zam f6
  have f7:Of Tryz.prog 4 [c18]:=YT (hf 7 _ rfl) (n := 1) (by kernel_rfl) rfl
  obtain ⟨v7,q7⟩:=f7.toBool Tryz.underlying4
  have b7:True:=trivial
  have f8:Of Tryz.prog 63 [c19]:=YT (hf 8 _ rfl) (n := 1) (by kernel_rfl) rfl
  obtain ⟨w8,q8,b8,m8⟩:=f8.toSlice Tryz.underlying63
  rw [MV] at q8
  rw [P6] at b8
  obtain ⟨v8,e8,n8⟩:=Yn (row := Lu) (ok := Yo) (fun r hr hq=>ZdA k (Ziy (w := 21) (rows := w8) (by simp [(List.cons.inj q8).1]) hr hk) hq) m8
  replace b8:v8.length * 312≤140737488351232:=by rw [e8,List.length_map] at b8; exact b8
  have f9:Of Tryz.prog 63 [c20]:=YT (hf 9 _ rfl) (n := 1) (by kernel_rfl) rfl
  obtain ⟨w9,q9,b9,m9⟩:=f9.toSlice Tryz.underlying63
  rw [MV] at q9
  rw [P6] at b9
  obtain ⟨v9,e9,n9⟩:=Yn (row := Lu) (ok := Yo) (fun r hr hq=>ZdA k (Ziy (w := 21) (rows := w9) (by simp [(List.cons.inj q9).1]) hr hk) hq) m9
  replace b9:v9.length * 312≤140737488351232:=by rw [e9,List.length_map] at b9; exact b9
  refine ⟨⟨v0,v1,v2,v3,v4,v5,v6,v7,v8,v9⟩,?_,⟨_,b0,b1,b2,b3,b4,b5,n5,b6,b7,b8,n8,b9,n9⟩⟩
  have hc:([c0,c1,c2,c3,c4,c5,c6,c7,c8,c9,c10,c11,c12,c13,c14,c15,c16,c17,c18,c19,c20]:List AV)=[c0] ++ [c1] ++ [c2] ++ [c3,c4,c5,c6] ++ [c7,c8,c9,c10] ++ [c11] ++ [c12,c13,c14,c15,c16,c17] ++ [c18] ++ [c19] ++ [c20]:=rfl
  rw [hc]
  rw [q0,q1,q2,q3,q4,q5,q6,q7,q8,q9]
  rw [e5,e8,e9]
  rw [ZfN]; simp only [List.append_assoc,List.cons_append,List.nil_append]
theorem ZgE {cs:List AV}(h:Of Tryz.prog 65 cs):∃ x,cs=GZ x∧KW x:=by
 obtain ⟨hl,hf⟩:=h.toStruct Tryz.underlying65
 rw [show Tryz.prog.cellsOf 65=4 from by kernel_rfl] at hl
 obtain ⟨c0,c1,c2,c3,r0,rfl,hl0⟩:=XC hl
 obtain rfl:=List.eq_nil_of_length_eq_zero hl0
 have f0:Of Tryz.prog 9 [c0]:=YT (hf 0 _ rfl) (n := 1) (by kernel_rfl) rfl
 obtain ⟨v0,q0,b0⟩:=f0.toStr Tryz.underlying9
 have f1:Of Tryz.prog 62 [c1]:=YT (hf 1 _ rfl) (n := 1) (by kernel_rfl) rfl
 obtain ⟨w1,q1,b1,m1⟩:=f1.toSlice Tryz.underlying62
 rw [AA] at q1
 rw [Zbz] at b1
 obtain ⟨v1,e1,n1⟩:=Yn (row := RV) (fun r hr hq=>Zf4 hq) m1
 replace b1:v1.length * 24≤140737488351232:=by rw [e1,List.length_map] at b1; exact b1
 have f2:Of Tryz.prog 62 [c2]:=YT (hf 2 _ rfl) (n := 1) (by kernel_rfl) rfl
 obtain ⟨w2,q2,b2,m2⟩:=f2.toSlice Tryz.underlying62
 rw [AA] at q2
 rw [Zbz] at b2
 obtain ⟨v2,e2,n2⟩:=Yn (row := RV) (fun r hr hq=>Zf4 hq) m2
 replace b2:v2.length * 24≤140737488351232:=by rw [e2,List.length_map] at b2; exact b2
 have f3:Of Tryz.prog 63 [c3]:=YT (hf 3 _ rfl) (n := 1) (by kernel_rfl) rfl
 obtain ⟨w3,q3,b3,m3⟩:=f3.toSlice Tryz.underlying63
 rw [MV] at q3
 rw [P6] at b3
 obtain ⟨v3,e3,n3⟩:=Yn (row := Lu) (ok := Yo) (fun r hr hq=>ZdA _ (Nat.le_refl _) hq) m3
 replace b3:v3.length * 312≤140737488351232:=by rw [e3,List.length_map] at b3; exact b3
 refine ⟨⟨v0,v1,v2,v3⟩,?_,⟨b0,⟨b1,n1⟩,⟨b2,n2⟩,⟨b3,n3⟩⟩⟩
 have hc:([c0,c1,c2,c3]:List AV)=[c0] ++ [c1] ++ [c2] ++ [c3]:=rfl
 rw [hc]
 rw [q0,q1,q2,q3]
 rw [e1,e2,e3]
 rfl
theorem ZkX {cs:List AV}(h:Of Tryz.prog 175 cs):∃ x,cs=Fz x∧FO x:=by
 obtain ⟨hl,hf⟩:=h.toStruct Tryz.underlying175
 rw [show Tryz.prog.cellsOf 175=5 from by kernel_rfl] at hl
 obtain ⟨c0,c1,c2,c3,r0,rfl,hl0⟩:=XC hl
 obtain ⟨c4,r4,rfl,hl4⟩:=ZbT hl0
 obtain rfl:=List.eq_nil_of_length_eq_zero hl4
 have f0:Of Tryz.prog 9 [c0]:=YT (hf 0 _ rfl) (n := 1) (by kernel_rfl) rfl
 obtain ⟨v0,q0,b0⟩:=f0.toStr Tryz.underlying9
 have f1:Of Tryz.prog 73 [c1]:=YT (hf 1 _ rfl) (n := 1) (by kernel_rfl) rfl
 obtain ⟨w1,q1,b1,m1⟩:=f1.toSlice Tryz.underlying73
 rw [CE] at q1
 rw [Zde] at b1
 obtain ⟨v1,e1,n1⟩:=Yn (row := (fun x=>[.int .i64 x])) (fun r hr hq=>Zn6 hq) m1
 replace b1:v1.length * 8≤140737488351232:=by rw [e1,List.length_map] at b1; exact b1
 have f2:Of Tryz.prog 3 [c2]:=YT (hf 2 _ rfl) (n := 1) (by kernel_rfl) rfl
 obtain ⟨v2,q2,b2⟩:=f2.toI64 Tryz.underlying3
 have f3:Of Tryz.prog 3 [c3]:=YT (hf 3 _ rfl) (n := 1) (by kernel_rfl) rfl
 obtain ⟨v3,q3,b3⟩:=f3.toI64 Tryz.underlying3
 have f4:Of Tryz.prog 3 [c4]:=YT (hf 4 _ rfl) (n := 1) (by kernel_rfl) rfl
 obtain ⟨v4,q4,b4⟩:=f4.toI64 Tryz.underlying3
 refine ⟨⟨v0,v1,v2,v3,v4⟩,?_,⟨b0,⟨b1,n1⟩,b2,b3,b4⟩⟩
 have hc:([c0,c1,c2,c3,c4]:List AV)=[c0] ++ [c1] ++ [c2] ++ [c3] ++ [c4]:=rfl
 rw [hc]
 rw [q0,q1,q2,q3,q4]
 rw [e1]
 rfl
theorem Zn5 {cs:List AV}(h:Of Tryz.prog 233 cs):∃ x,cs=ZgY x∧ZlL x:=by
 obtain ⟨hl,hf⟩:=h.toStruct Tryz.underlying233
 rw [show Tryz.prog.cellsOf 233=3 from by kernel_rfl] at hl
 obtain ⟨c0,c1,c2,r0,rfl,hl0⟩:=Zd0 hl
 obtain rfl:=List.eq_nil_of_length_eq_zero hl0
 have f0:Of Tryz.prog 3 [c0]:=YT (hf 0 _ rfl) (n := 1) (by kernel_rfl) rfl
 obtain ⟨v0,q0,b0⟩:=f0.toI64 Tryz.underlying3
 have f1:Of Tryz.prog 9 [c1]:=YT (hf 1 _ rfl) (n := 1) (by kernel_rfl) rfl
 obtain ⟨v1,q1,b1⟩:=f1.toStr Tryz.underlying9
 have f2:Of Tryz.prog 9 [c2]:=YT (hf 2 _ rfl) (n := 1) (by kernel_rfl) rfl
 obtain ⟨v2,q2,b2⟩:=f2.toStr Tryz.underlying9
 refine ⟨⟨v0,v1,v2⟩,?_,⟨b0,b1,b2⟩⟩
 have hc:([c0,c1,c2]:List AV)=[c0] ++ [c1] ++ [c2]:=rfl
 rw [hc]
 rw [q0,q1,q2]
 rfl
theorem Zp5 {cs:List AV}(h:Of Tryz.prog 179 cs):∃ x,cs=ZoF x∧ZjV x:=by
 obtain ⟨hl,hf⟩:=h.toStruct Tryz.underlying179
 rw [show Tryz.prog.cellsOf 179=3 from by kernel_rfl] at hl
 obtain ⟨c0,c1,c2,r0,rfl,hl0⟩:=Zd0 hl
 obtain rfl:=List.eq_nil_of_length_eq_zero hl0
 have f0:Of Tryz.prog 9 [c0]:=YT (hf 0 _ rfl) (n := 1) (by kernel_rfl) rfl
 obtain ⟨v0,q0,b0⟩:=f0.toStr Tryz.underlying9
 have f1:Of Tryz.prog 177 [c1]:=YT (hf 1 _ rfl) (n := 1) (by kernel_rfl) rfl
 obtain ⟨w1,q1,b1,m1⟩:=f1.toSlice Tryz.underlying177
 rw [Zgy] at q1
 rw [ZhE] at b1
 obtain ⟨v1,e1,n1⟩:=Yn (row := ZgY) (fun r hr hq=>Zn5 hq) m1
 replace b1:v1.length * 40≤140737488351232:=by rw [e1,List.length_map] at b1; exact b1
 have f2:Of Tryz.prog 3 [c2]:=YT (hf 2 _ rfl) (n := 1) (by kernel_rfl) rfl
 obtain ⟨v2,q2,b2⟩:=f2.toI64 Tryz.underlying3
 refine ⟨⟨v0,v1,v2⟩,?_,⟨b0,⟨b1,n1⟩,b2⟩⟩
 have hc:([c0,c1,c2]:List AV)=[c0] ++ [c1] ++ [c2]:=rfl
 rw [hc]
 rw [q0,q1,q2]
 rw [e1]
 rfl
theorem Zd9 {cs:List AV}(h:Of Tryz.prog 55 cs):∃ x,cs=Uy x∧YS x:=by
 obtain ⟨hl,hf⟩:=h.toStruct Tryz.underlying55
 rw [show Tryz.prog.cellsOf 55=13 from by kernel_rfl] at hl
 obtain ⟨c0,c1,c2,c3,r0,rfl,hl0⟩:=XC hl
 obtain ⟨c4,c5,c6,c7,r4,rfl,hl4⟩:=XC hl0
 obtain ⟨c8,c9,c10,c11,r8,rfl,hl8⟩:=XC hl4
 obtain ⟨c12,r12,rfl,hl12⟩:=ZbT hl8
 obtain rfl:=List.eq_nil_of_length_eq_zero hl12
 have f0:Of Tryz.prog 9 [c0]:=YT (hf 0 _ rfl) (n := 1) (by kernel_rfl) rfl
 obtain ⟨v0,q0,b0⟩:=f0.toStr Tryz.underlying9
 have f1:Of Tryz.prog 46 [c1]:=YT (hf 1 _ rfl) (n := 1) (by kernel_rfl) rfl
 obtain ⟨w1,q1,b1,m1⟩:=f1.toSlice Tryz.underlying46
 rw [Zgr] at q1
 rw [Zh7] at b1
 obtain ⟨v1,e1,n1⟩:=Yn (row := NP) (fun r hr hq=>ZkY hq) m1
 replace b1:v1.length * 32≤140737488351232:=by rw [e1,List.length_map] at b1; exact b1
 have f2:Of Tryz.prog 47 [c2]:=YT (hf 2 _ rfl) (n := 1) (by kernel_rfl) rfl
 obtain ⟨w2,q2,b2,m2⟩:=f2.toSlice Tryz.underlying47
 rw [Zgs] at q2
 rw [Zh8] at b2
 obtain ⟨v2,e2,n2⟩:=Yn (row := WS) (fun r hr hq=>Nw hq) m2
 replace b2:v2.length * 232≤140737488351232:=by rw [e2,List.length_map] at b2; exact b2
 have f3:Of Tryz.prog 48 [c3]:=YT (hf 3 _ rfl) (n := 1) (by kernel_rfl) rfl
 obtain ⟨w3,q3,b3,m3⟩:=f3.toSlice Tryz.underlying48
 rw [Zgt] at q3
 rw [Zh9] at b3
 obtain ⟨v3,e3,n3⟩:=Yn (row := Jc) (fun r hr hq=>Zcc hq) m3
 replace b3:v3.length * 32≤140737488351232:=by rw [e3,List.length_map] at b3; exact b3
 have f4:Of Tryz.prog 49 [c4]:=YT (hf 4 _ rfl) (n := 1) (by kernel_rfl) rfl
 obtain ⟨w4,q4,b4,m4⟩:=f4.toSlice Tryz.underlying49
 rw [Zgu] at q4
 rw [ZhA] at b4
 obtain ⟨v4,e4,n4⟩:=Yn (row := Uw) (fun r hr hq=>Zd6 hq) m4
 replace b4:v4.length * 32≤140737488351232:=by rw [e4,List.length_map] at b4; exact b4
 have f5:Of Tryz.prog 50 [c5]:=YT (hf 5 _ rfl) (n := 1) (by kernel_rfl) rfl
 obtain ⟨w5,q5,b5,m5⟩:=f5.toSlice Tryz.underlying50
 rw [OO] at q5
 rw [P7] at b5
 obtain ⟨v5,e5,n5⟩:=Yn (row := (fun x=>[.str x])) (fun r hr hq=>ZiM hq) m5
 replace b5:v5.length * 16≤140737488351232:=by rw [e5,List.length_map] at b5; exact b5
 have f6:Of Tryz.prog 50 [c6]:=YT (hf 6 _ rfl) (n := 1) (by kernel_rfl) rfl
 obtain ⟨w6,q6,b6,m6⟩:=f6.toSlice Tryz.underlying50
 rw [OO] at q6
 rw [P7] at b6
 obtain ⟨v6,e6,n6⟩:=Yn (row := (fun x=>[.str x])) (fun r hr hq=>ZiM hq) m6
 replace b6:v6.length * 16≤140737488351232:=by rw [e6,List.length_map] at b6; exact b6
 have f7:Of Tryz.prog 50 [c7]:=YT (hf 7 _ rfl) (n := 1) (by kernel_rfl) rfl
 obtain ⟨w7,q7,b7,m7⟩:=f7.toSlice Tryz.underlying50
 rw [OO] at q7
 rw [P7] at b7
 obtain ⟨v7,e7,n7⟩:=Yn (row := (fun x=>[.str x])) (fun r hr hq=>ZiM hq) m7
 replace b7:v7.length * 16≤140737488351232:=by rw [e7,List.length_map] at b7; exact b7
 have f8:Of Tryz.prog 50 [c8]:=YT (hf 8 _ rfl) (n := 1) (by kernel_rfl) rfl
 obtain ⟨w8,q8,b8,m8⟩:=f8.toSlice Tryz.underlying50
 rw [OO] at q8
 rw [P7] at b8
 obtain ⟨v8,e8,n8⟩:=Yn (row := (fun x=>[.str x])) (fun r hr hq=>ZiM hq) m8
 replace b8:v8.length * 16≤140737488351232:=by rw [e8,List.length_map] at b8; exact b8
 have f9:Of Tryz.prog 50 [c9]:=YT (hf 9 _ rfl) (n := 1) (by kernel_rfl) rfl
 obtain ⟨w9,q9,b9,m9⟩:=f9.toSlice Tryz.underlying50
 rw [OO] at q9
 rw [P7] at b9
 obtain ⟨v9,e9,n9⟩:=Yn (row := (fun x=>[.str x])) (fun r hr hq=>ZiM hq) m9
 replace b9:v9.length * 16≤140737488351232:=by rw [e9,List.length_map] at b9; exact b9
 have f10:Of Tryz.prog 51 [c10]:=YT (hf 10 _ rfl) (n := 1) (by kernel_rfl) rfl
 obtain ⟨w10,q10,b10,m10⟩:=f10.toSlice Tryz.underlying51
 rw [ZhL] at q10
 rw [Zkd] at b10
 obtain ⟨v10,e10,n10⟩:=Yn (row := GZ) (fun r hr hq=>ZgE hq) m10
 replace b10:v10.length * 88≤140737488351232:=by rw [e10,List.length_map] at b10; exact b10
 have f11:Of Tryz.prog 52 [c11]:=YT (hf 11 _ rfl) (n := 1) (by kernel_rfl) rfl
 obtain ⟨w11,q11,b11,m11⟩:=f11.toSlice Tryz.underlying52
 rw [Zgv] at q11
 rw [ZhB] at b11
 obtain ⟨v11,e11,n11⟩:=Yn (row := Fz) (fun r hr hq=>ZkX hq) m11
 replace b11:v11.length * 64≤140737488351232:=by rw [e11,List.length_map] at b11; exact b11
 have f12:Of Tryz.prog 53 [c12]:=YT (hf 12 _ rfl) (n := 1) (by kernel_rfl) rfl
 obtain ⟨w12,q12,b12,m12⟩:=f12.toSlice Tryz.underlying53
 rw [Zgw] at q12
 rw [ZhC] at b12
 obtain ⟨v12,e12,n12⟩:=Yn (row := ZoF) (fun r hr hq=>Zp5 hq) m12
 replace b12:v12.length * 48≤140737488351232:=by rw [e12,List.length_map] at b12; exact b12
 refine ⟨⟨v0,v1,v2,v3,v4,v5,v6,v7,v8,v9,v10,v11,v12⟩,?_,⟨b0,⟨b1,n1⟩,⟨b2,n2⟩,⟨b3,n3⟩,⟨b4,n4⟩,⟨b5,n5⟩,⟨b6,n6⟩,⟨b7,n7⟩,⟨b8,n8⟩,⟨b9,n9⟩,⟨b10,n10⟩,⟨b11,n11⟩,⟨b12,n12⟩⟩⟩
 have hc:([c0,c1,c2,c3,c4,c5,c6,c7,c8,c9,c10,c11,c12]:List AV)=[c0] ++ [c1] ++ [c2] ++ [c3] ++ [c4] ++ [c5] ++ [c6] ++ [c7] ++ [c8] ++ [c9] ++ [c10] ++ [c11] ++ [c12]:=rfl
 rw [hc]
 rw [q0,q1,q2,q3,q4,q5,q6,q7,q8,q9,q10,q11,q12]
 rw [e1,e2,e3,e4,e5,e6,e7,e8,e9,e10,e11,e12]
 rfl
theorem ZkW {cs:List AV}(h:Of Tryz.prog 77 cs):∃ x,cs=Ux x∧Xp x:=by
 obtain ⟨hl,hf⟩:=h.toStruct Tryz.underlying77
 rw [show Tryz.prog.cellsOf 77=20 from by kernel_rfl] at hl
 obtain ⟨c0,c1,c2,c3,r0,rfl,hl0⟩:=XC hl
 obtain ⟨c4,c5,c6,c7,r4,rfl,hl4⟩:=XC hl0
 obtain ⟨c8,c9,c10,c11,r8,rfl,hl8⟩:=XC hl4
 obtain ⟨c12,c13,c14,c15,r12,rfl,hl12⟩:=XC hl8
 obtain ⟨c16,c17,c18,c19,r16,rfl,hl16⟩:=XC hl12
 obtain rfl:=List.eq_nil_of_length_eq_zero hl16
 have f0:Of Tryz.prog 67 [c0]:=YT (hf 0 _ rfl) (n := 1) (by kernel_rfl) rfl
 obtain ⟨v0,q0,b0⟩:=f0.toI64 Tryz.underlying67
 have f1:Of Tryz.prog 3 [c1]:=YT (hf 1 _ rfl) (n := 1) (by kernel_rfl) rfl
 obtain ⟨v1,q1,b1⟩:=f1.toI64 Tryz.underlying3
 have f2:Of Tryz.prog 3 [c2]:=YT (hf 2 _ rfl) (n := 1) (by kernel_rfl) rfl
 obtain ⟨v2,q2,b2⟩:=f2.toI64 Tryz.underlying3
 have f3:Of Tryz.prog 3 [c3]:=YT (hf 3 _ rfl) (n := 1) (by kernel_rfl) rfl
 obtain ⟨v3,q3,b3⟩:=f3.toI64 Tryz.underlying3
 have f4:Of Tryz.prog 71 [c4,c5,c6,c7]:=YT (hf 4 _ rfl) (n := 4) (by kernel_rfl) rfl
 obtain ⟨v4,q4,b4⟩:=IU _ (Nat.le_refl _) f4
 have f5:Of Tryz.prog 71 [c8,c9,c10,c11]:=YT (hf 5 _ rfl) (n := 4) (by kernel_rfl) rfl
 obtain ⟨v5,q5,b5⟩:=IU _ (Nat.le_refl _) f5
 have f6:Of Tryz.prog 69 [c12]:=YT (hf 6 _ rfl) (n := 1) (by kernel_rfl) rfl
 obtain ⟨w6,q6,b6,m6⟩:=f6.toSlice Tryz.underlying69
 rw [PD] at q6
 rw [Cm] at b6
 obtain ⟨v6,e6,n6⟩:=Yn (row := X0) (ok := ZL) (fun r hr hq=>IU _ (Nat.le_refl _) hq) m6
 replace b6:v6.length * 56≤140737488351232:=by rw [e6,List.length_map] at b6; exact b6
 have f7:Of Tryz.prog 75 [c13,c14,c15,c16,c17,c18]:=YT (hf 7 _ rfl) (n := 6) (by kernel_rfl) rfl
 obtain ⟨v7,q7,b7⟩:=Zam f7
 have f8:Of Tryz.prog 4 [c19]:=YT (hf 8 _ rfl) (n := 1) (by kernel_rfl) rfl
 obtain ⟨v8,q8⟩:=f8.toBool Tryz.underlying4
 have b8:True:=trivial
 refine ⟨⟨v0,v1,v2,v3,v4,v5,v6,v7,v8⟩,?_,⟨b0,b1,b2,b3,b4,b5,⟨b6,n6⟩,b7,b8⟩⟩
 have hc:([c0,c1,c2,c3,c4,c5,c6,c7,c8,c9,c10,c11,c12,c13,c14,c15,c16,c17,c18,c19]:List AV)=[c0] ++ [c1] ++ [c2] ++ [c3] ++ [c4,c5,c6,c7] ++ [c8,c9,c10,c11] ++ [c12] ++ [c13,c14,c15,c16,c17,c18] ++ [c19]:=rfl
 rw [hc]
 rw [q0,q1,q2,q3,q4,q5,q6,q7,q8]
 rw [e6]
 unfold Ux; simp only [List.append_assoc,List.cons_append,List.nil_append]
theorem Zd7 {cs:List AV}(h:Of Tryz.prog 32 cs):∃ x,cs=TA x∧LV x:=by
 obtain ⟨hl,hf⟩:=h.toStruct Tryz.underlying32
 rw [show Tryz.prog.cellsOf 32=4 from by kernel_rfl] at hl
 obtain ⟨c0,c1,c2,c3,r0,rfl,hl0⟩:=XC hl
 obtain rfl:=List.eq_nil_of_length_eq_zero hl0
 have f0:Of Tryz.prog 9 [c0]:=YT (hf 0 _ rfl) (n := 1) (by kernel_rfl) rfl
 obtain ⟨v0,q0,b0⟩:=f0.toStr Tryz.underlying9
 have f1:Of Tryz.prog 3 [c1]:=YT (hf 1 _ rfl) (n := 1) (by kernel_rfl) rfl
 obtain ⟨v1,q1,b1⟩:=f1.toI64 Tryz.underlying3
 have f2:Of Tryz.prog 3 [c2]:=YT (hf 2 _ rfl) (n := 1) (by kernel_rfl) rfl
 obtain ⟨v2,q2,b2⟩:=f2.toI64 Tryz.underlying3
 have f3:Of Tryz.prog 30 [c3]:=YT (hf 3 _ rfl) (n := 1) (by kernel_rfl) rfl
 obtain ⟨w3,q3,b3,m3⟩:=f3.toSlice Tryz.underlying30
 rw [ZhM] at q3
 rw [Zke] at b3
 obtain ⟨v3,e3,n3⟩:=Yn (row := Ux) (fun r hr hq=>ZkW hq) m3
 replace b3:v3.length * 256≤140737488351232:=by rw [e3,List.length_map] at b3; exact b3
 refine ⟨⟨v0,v1,v2,v3⟩,?_,⟨b0,b1,b2,⟨b3,n3⟩⟩⟩
 have hc:([c0,c1,c2,c3]:List AV)=[c0] ++ [c1] ++ [c2] ++ [c3]:=rfl
 rw [hc]
 rw [q0,q1,q2,q3]
 rw [e3]
 rfl
theorem Zd8 {cs:List AV}(h:Of Tryz.prog 58 cs):∃ x,cs=Ju x∧Ac x:=by
 obtain ⟨hl,hf⟩:=h.toStruct Tryz.underlying58
 rw [show Tryz.prog.cellsOf 58=14 from by kernel_rfl] at hl
 obtain ⟨c0,c1,c2,c3,r0,rfl,hl0⟩:=XC hl
 obtain ⟨c4,c5,c6,c7,r4,rfl,hl4⟩:=XC hl0
 obtain ⟨c8,c9,c10,c11,r8,rfl,hl8⟩:=XC hl4
 obtain ⟨c12,c13,r12,rfl,hl12⟩:=Zdz hl8
 obtain rfl:=List.eq_nil_of_length_eq_zero hl12
 have f0:Of Tryz.prog 55 [c0,c1,c2,c3,c4,c5,c6,c7,c8,c9,c10,c11,c12]:=YT (hf 0 _ rfl) (n := 13) (by kernel_rfl) rfl
 obtain ⟨v0,q0,b0⟩:=Zd9 f0
 have f1:Of Tryz.prog 56 [c13]:=YT (hf 1 _ rfl) (n := 1) (by kernel_rfl) rfl
 obtain ⟨w1,q1,b1,m1⟩:=f1.toSlice Tryz.underlying56
 rw [ZhI] at q1
 rw [Zka] at b1
 obtain ⟨v1,e1,n1⟩:=Yn (row := TA) (fun r hr hq=>Zd7 hq) m1
 replace b1:v1.length * 56≤140737488351232:=by rw [e1,List.length_map] at b1; exact b1
 refine ⟨⟨v0,v1⟩,?_,⟨b0,⟨b1,n1⟩⟩⟩
 have hc:([c0,c1,c2,c3,c4,c5,c6,c7,c8,c9,c10,c11,c12,c13]:List AV)=[c0,c1,c2,c3,c4,c5,c6,c7,c8,c9,c10,c11,c12] ++ [c13]:=rfl
 rw [hc]
 rw [q0,q1]
 rw [e1]
 unfold Ju; simp only [List.append_assoc,List.cons_append,List.nil_append]
theorem Zp4 {cs:List AV}(h:Of Tryz.prog 60 cs):∃ x,cs=ZoE x∧ZoM x:=by
 obtain ⟨hl,hf⟩:=h.toStruct Tryz.underlying60
 rw [show Tryz.prog.cellsOf 60=3 from by kernel_rfl] at hl
 obtain ⟨c0,c1,c2,r0,rfl,hl0⟩:=Zd0 hl
 obtain rfl:=List.eq_nil_of_length_eq_zero hl0
 have f0:Of Tryz.prog 3 [c0]:=YT (hf 0 _ rfl) (n := 1) (by kernel_rfl) rfl
 obtain ⟨v0,q0,b0⟩:=f0.toI64 Tryz.underlying3
 have f1:Of Tryz.prog 3 [c1]:=YT (hf 1 _ rfl) (n := 1) (by kernel_rfl) rfl
 obtain ⟨v1,q1,b1⟩:=f1.toI64 Tryz.underlying3
 have f2:Of Tryz.prog 3 [c2]:=YT (hf 2 _ rfl) (n := 1) (by kernel_rfl) rfl
 obtain ⟨v2,q2,b2⟩:=f2.toI64 Tryz.underlying3
 refine ⟨⟨v0,v1,v2⟩,?_,⟨b0,b1,b2⟩⟩
 have hc:([c0,c1,c2]:List AV)=[c0] ++ [c1] ++ [c2]:=rfl
 rw [hc]
 rw [q0,q1,q2]
 rfl
theorem ZgD {cs:List AV}(h:Of Tryz.prog 25 cs):∃ x,cs=UJ x∧Dp x:=by
 obtain ⟨hl,hf⟩:=h.toStruct Tryz.underlying25
 rw [show Tryz.prog.cellsOf 25=3 from by kernel_rfl] at hl
 obtain ⟨c0,c1,c2,r0,rfl,hl0⟩:=Zd0 hl
 obtain rfl:=List.eq_nil_of_length_eq_zero hl0
 have f0:Of Tryz.prog 9 [c0]:=YT (hf 0 _ rfl) (n := 1) (by kernel_rfl) rfl
 obtain ⟨v0,q0,b0⟩:=f0.toStr Tryz.underlying9
 have f1:Of Tryz.prog 22 [c1]:=YT (hf 1 _ rfl) (n := 1) (by kernel_rfl) rfl
 obtain ⟨w1,q1,b1,m1⟩:=f1.toSlice Tryz.underlying22
 rw [ZhJ] at q1
 rw [Zkb] at b1
 obtain ⟨v1,e1,n1⟩:=Yn (row := Ju) (fun r hr hq=>Zd8 hq) m1
 replace b1:v1.length * 328≤140737488351232:=by rw [e1,List.length_map] at b1; exact b1
 have f2:Of Tryz.prog 23 [c2]:=YT (hf 2 _ rfl) (n := 1) (by kernel_rfl) rfl
 obtain ⟨w2,q2,b2,m2⟩:=f2.toSlice Tryz.underlying23
 rw [ZhK] at q2
 rw [Zkc] at b2
 obtain ⟨v2,e2,n2⟩:=Yn (row := ZoE) (fun r hr hq=>Zp4 hq) m2
 replace b2:v2.length * 24≤140737488351232:=by rw [e2,List.length_map] at b2; exact b2
 refine ⟨⟨v0,v1,v2⟩,?_,⟨b0,⟨b1,n1⟩,⟨b2,n2⟩⟩⟩
 have hc:([c0,c1,c2]:List AV)=[c0] ++ [c1] ++ [c2]:=rfl
 rw [hc]
 rw [q0,q1,q2]
 rw [e1,e2]
 rfl
end Go.Proofs.YtleomfgijkapfaaGreatDoor
end
section
namespace Go.Proofs.YtleomfgijkapfaaGreatDoor.Abs
open Go Go.RowKit
def Zov (f:FuncId)(args:List AV)(hp:List Zp):Option (AV×List Zp×Eff) :=
 if f=45 then match args with
  | [.ptr p 0]=>match hp[p]? with
   | some (.cells [.nilp,.nils 1] t)=>if t=93 then some (.str [],hp,none) else none
   | _=>Zql f args hp
  | _=>none
 else none
theorem Zow (W0:World):Z5 Tryz.prog W0 Zov:=by
 intro g args hp v hp' e hc Γ w xs hr ht hs hx
 unfold Zov at hc
 split at hc <;> first | (cases hc; done) | skip
 rename_i hf
 split at hc <;> first | (cases hc; done) | skip
 rename_i p
 split at hc
 ·rename_i t hg
  split at hc <;> cases hc
  rename_i ht'
  subst ht'
  subst hf
  obtain ⟨b,hb,h0⟩:=Tu (hx 0 _ rfl).1
  have hxs:xs=#[.pointer (some ⟨b,0,none⟩)]:=by
   refine Array.ext (by simpa using hs) fun i h2 h3=>?_
   have:i=0:=by simp at h3; omega
   subst this
   rw [Array.getD_eq_getD_getElem?,Array.getElem?_eq_getElem h2] at h0; simpa using h0
  subst hxs
  obtain ⟨b',C,h1,h2,h3,h4⟩:=hr.objs p _ hg
  obtain rfl:=hr.inj b b' p hb h1
  have hc1:w.cell? ⟨b,1,none⟩=some (.slice none 0 0):=by
   have h5:=(h4 1 (.nils 1) rfl).2.1
   rw [Lib.cell_of_heap h2,Yd (by rw [h3]; decide)]
   generalize C.getD 1 Go.undef=u at h5 ⊢
   cases h5; rfl
  refine Ec Tryz.func45 (by kernel_rfl) rfl ((Zb4 b w.heap.size w hc1).mono ?_)
  rintro e w' ⟨rfl,hsole,hcell⟩
  refine ⟨_,rfl,?_⟩
  have i2:=(inv0 hr ht).plain (X := fun _=>False) (Γ':=Γ) (w':=w') ⟨hsole.os,hsole.tape,hsole.output,hsole.size,fun k hk _=>⟨rfl,hsole.same k hk (by omega)⟩,fun k o y h1 h2=>⟨h1,(WZ (hsole.same k (lt_of_cell h2) (by have:=lt_of_cell h2; omega))).trans h2⟩,.refl _⟩ (fun _ hx=>hx.elim) (fun _ _ h=>h) (fun k hk'=>hr.fresh k (Nat.le_trans hsole.size hk'))
  exact Zrv (hp := hp) i2 rfl (v := .str []) (.str []) (by simp)
 ·exact Zj2 W0 _ _ _ _ _ _ hc Γ w xs hr ht hs hx
end Go.Proofs.YtleomfgijkapfaaGreatDoor.Abs
end
