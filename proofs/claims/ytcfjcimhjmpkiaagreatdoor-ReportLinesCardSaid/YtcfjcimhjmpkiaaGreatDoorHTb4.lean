import Derived.Deep.Slices
import Derived.ChangeArms
import Derived.DataReads
import Derived.WideKeyArgs
import Derived.SizedLaws
import Derived.Test.YtcfjcimhjmpkiaaGreatDoorHTb3
set_option linter.all false
section
namespace Go.Proofs.YtcfjcimhjmpkiaaGreatDoor.Abs
open Go Go.RowKit Go.ChangeShapes Go.WideShapes Go.Deep
def tile (P:Program):List Field→Nat→Nat→Bool
 | [],o,n=>o == n
 | f :: r,o,n=>(f.offset == o) && tile P r (o + P.cellsOf f.type) n
def ShpD {H:Type}(P:Program):Nat→TypeId→List AV→DataW H→Prop
 | 0,_,_,_=>False
 | n + 1,t,az,d=>match P.underlying t with
  | some .bool=>∃ b,az=[.bool b]∧d=.lit (.bool b)
  | some (.int k)=>∃ x,az=[.int k x]∧d=.lit (.int k x)∧(Lit.int k x).wf=true
  | some .string=>∃ s,az=[.str s]∧d=.lit (.string s)∧s.length≤140737488351232
  | some (.slice e)=>∃ rows,az=[.lst (P.cellsOf e) rows]∧rows.length≤140737488351232∧((rows=[]∧d=.nil)∨∃ D ds spare,d=.slice ds spare∧ds=(List.range rows.length).map D∧∀ (i:Nat) (r:List AV),rows[i]? = some r→ShpD P n e r (D i))
  | some (.struct fs)=>az.length=P.cellsOf t∧∃ ds,d=.agg ds∧ds.length=fs.size∧∀ (i:Nat) (f:Field),fs.toList[i]? = some f→∃ di,ds[i]? = some di∧ShpD P n f.type ((az.drop f.offset).take (P.cellsOf f.type)) di
  | _=>False
structure Shp {H:Type}(P:Program)(n:Nat)(t:TypeId)(az:List AV)(d:DataW H):Prop where
 ok:ShpD P n t az d
theorem reach_lt {n:Nat}(h:n≤reachBytes):n≤140737488351232:=h
theorem Shp.bool {H:Type}{P:Program}{n:Nat}{t:TypeId}{az:List AV}{d:DataW H}(h:Shp P (n + 1) t az d)(hu:P.underlying t=some .bool):∃ b,az=[.bool b]∧d=.lit (.bool b):=by
 have h:=h.ok; rw [ShpD,hu] at h; exact h
theorem Shp.int {H:Type}{P:Program}{n:Nat}{t:TypeId}{k:IntKind}{az:List AV}{d:DataW H}(h:Shp P (n + 1) t az d)(hu:P.underlying t=some (.int k)):∃ x,az=[.int k x]∧d=.lit (.int k x)∧k.min≤x∧x≤k.max:=by
 have h:=h.ok
 rw [ShpD,hu] at h
 obtain ⟨x,h1,h2,h3⟩:=h
 simp only [Lit.wf,Bool.and_eq_true,decide_eq_true_eq] at h3
 exact ⟨x,h1,h2,h3⟩
theorem Shp.i64 {H:Type}{P:Program}{n:Nat}{t:TypeId}{az:List AV}{d:DataW H}(h:Shp P (n + 1) t az d)(hu:P.underlying t=some (.int .i64)):∃ x,az=[.int .i64 x]∧d=.lit (.int .i64 x)∧-9223372036854775808≤x∧x≤9223372036854775807:=by
 obtain ⟨x,h1,h2,h3⟩:=h.int hu
 exact ⟨x,h1,h2,by simpa [IntKind.min,IntKind.max,IntKind.signed,IntKind.bits] using h3⟩
theorem Shp.str {H:Type}{P:Program}{n:Nat}{t:TypeId}{az:List AV}{d:DataW H}(h:Shp P (n + 1) t az d)(hu:P.underlying t=some .string):∃ s,az=[.str s]∧d=.lit (.string s)∧s.length≤140737488351232:=by
 have h:=h.ok; rw [ShpD,hu] at h; exact h
theorem Shp.slice {H:Type}{P:Program}{n:Nat}{t e:TypeId}{az:List AV}{d:DataW H}(h:Shp P (n + 1) t az d)(hu:P.underlying t=some (.slice e)):∃ rows,az=[.lst (P.cellsOf e) rows]∧rows.length≤140737488351232∧((rows=[]∧d=.nil)∨∃ D ds spare,d=.slice ds spare∧ds=(List.range rows.length).map D∧∀ (i:Nat) (r:List AV),rows[i]? = some r→Shp P n e r (D i)):=by
 have h:=h.ok
 rw [ShpD,hu] at h
 obtain ⟨rows,h1,h2,h3⟩:=h
 refine ⟨rows,h1,h2,h3.imp id ?_⟩
 rintro ⟨D,ds,spare,e1,e2,e3⟩
 exact ⟨D,ds,spare,e1,e2,fun i r hr=>⟨e3 i r hr⟩⟩
theorem Shp.struct {H:Type}{P:Program}{n:Nat}{t:TypeId}{fs:Array Field}{az:List AV}{d:DataW H}(h:Shp P (n + 1) t az d)(hu:P.underlying t=some (.struct fs)):az.length=P.cellsOf t∧∃ ds,d=.agg ds∧ds.length=fs.size∧∀ (i:Nat) (f:Field),fs.toList[i]? = some f→∃ di,ds[i]? = some di∧Shp P n f.type ((az.drop f.offset).take (P.cellsOf f.type)) di:=by
 have h:=h.ok
 rw [ShpD,hu] at h
 obtain ⟨h1,ds,h2,h3,h4⟩:=h
 exact ⟨h1,ds,h2,h3,fun i f hf=>let ⟨di,e1,e2⟩:=h4 i f hf; ⟨di,e1,⟨e2⟩⟩⟩
def CellRep (Γ:Ghost)(w:World)(a:AV)(v:Value):Prop:=Rep Γ w a v∧a.one=true∧a.noId1=true∧∀ k r,a≠.own k r
variable {H:Type}{enc:TypeId×Value→H}{P:Program}{w:World}{base:Nat}{sp:Nat→Bool}{held:Bool}{Γ:Ghost}
theorem wts_all {H:Type}{P:Program}{e:TypeId}{d:DataW H}{y:Nat}:∀ {ds:List (DataW H)},d ∈ ds→y ∈ d.weights P e→y ∈ DataW.weightsAll P e ds
 | [],h,_=>by simp at h
 | z :: ds,h,hy=>by
  rw [DataW.weightsAll,List.mem_append]
  rcases List.mem_cons.1 h with rfl | h
  ·exact .inl hy
  ·exact .inr (wts_all h hy)
theorem sized_arg {H:Type}{P:Program}{ts:List TypeId}{ds:List (DataW H)}(h:(DataW.weightsEach P ts ds).all (·≤reachBytes)=true){j:Nat}{t:TypeId}{d:DataW H}(ht:ts[j]? = some t)(hd:ds[j]? = some d):∀ y ∈ d.weights P t,y≤reachBytes:=fun y hy=>by
 have:=List.all_eq_true.1 h _ (DataW.weights_mem_each ht hd y hy)
 simpa using this
theorem arg_stays {t:TypeId}{v:Value}{d:DataW H}{ps:List MemPlace}{W W':World}(hl:laidOutB P=true)(hr:P.readableRec t=true)(hrow:t < P.types.size)(h:DataW.Trod enc P W 0 (fun _=>true) true t v d ps)(hb:Below W.heap.size W W')(hlt:∀ p ∈ ps,p.block < W.heap.size) :
  DataW.Trod enc P W' 0 (fun b=>decide (b < W.heap.size)) true t v d ps :=
 WideElems.Trod_stays hl hr hrow h (fun p hp=>hb.same (hlt p hp)) (fun p hp=>by simpa using hlt p hp)
end Go.Proofs.YtcfjcimhjmpkiaaGreatDoor.Abs
end
section
namespace Go.Proofs.YtcfjcimhjmpkiaaGreatDoor.Abs
open Go Go.RowKit Go.ChangeShapes Go.WideShapes Go.Deep
def Rz (P:Program)(S:List TypeId):Bool :=
 S.all fun t=>match P.underlying t with
  | some .bool=>true
  | some (.int _)=>true
  | some .string=>true
  | some (.slice e)=>(decide (0 < P.cellsOf e) && decide (0 < P.bytesOf e)) && S.contains e
  | some (.struct fs)=>tile P fs.toList 0 (P.cellsOf t) && fs.toList.all fun f=>S.contains f.type
  | _=>false
inductive XQ {H:Type}(P:Program):TypeId→List AV→DataW H→Prop
 | bool (t:TypeId) (b:Bool) (hu:P.underlying t=some .bool):XQ P t [.bool b] (.lit (.bool b))
 | int (t:TypeId) (k:IntKind) (x:Int) (hu:P.underlying t=some (.int k)) (hw:(Lit.int k x).wf=true):XQ P t [.int k x] (.lit (.int k x))
 | str (t:TypeId) (s:List UInt8) (hu:P.underlying t=some .string) (hl:s.length≤140737488351232):XQ P t [.str s] (.lit (.string s))
 | nil (t e:TypeId) (hu:P.underlying t=some (.slice e)):XQ P t [.lst (P.cellsOf e) []] .nil
 | slice (t e:TypeId) (rows:List (List AV)) (D:Nat→DataW H) (spare:List (DataW H)) (hu:P.underlying t=some (.slice e)) (hl:rows.length * P.bytesOf e≤140737488351232) (h:∀ (i:Nat) (r:List AV),rows[i]? = some r→XQ P e r (D i)) :
   XQ P t [.lst (P.cellsOf e) rows] (.slice ((List.range rows.length).map D) spare)
 | struct (t:TypeId) (fs:Array Field) (cs:List AV) (D:Nat→DataW H) (hu:P.underlying t=some (.struct fs)) (hl:cs.length=P.cellsOf t)
   (h:∀ (i:Nat) (f:Field),fs.toList[i]? = some f→XQ P f.type ((cs.drop f.offset).take (P.cellsOf f.type)) (D i)):XQ P t cs (.agg ((List.range fs.size).map D))
section
variable {H:Type}{P:Program}{t:TypeId}{cs:List AV}{d:DataW H}
theorem XQ.toStr (h:XQ P t cs d)(hu:P.underlying t=some .string):∃ s,cs=[.str s]∧d=.lit (.string s)∧s.length≤140737488351232:=by
 cases h with
 | str _ s h1 hl=>exact ⟨s,rfl,rfl,hl⟩
 | _=>simp_all
theorem XQ.toSlice (h:XQ P t cs d){e:TypeId}(hu:P.underlying t=some (.slice e)):∃ rows,cs=[.lst (P.cellsOf e) rows]∧rows.length * P.bytesOf e≤140737488351232∧∃ D:Nat→DataW H,(∀ (i:Nat) (r:List AV),rows[i]? = some r→XQ P e r (D i))∧((rows=[]∧d=.nil)∨∃ spare,d=.slice ((List.range rows.length).map D) spare):=by
 cases h with
 | nil _ e' h1=>rw [hu] at h1; cases h1; exact ⟨[],rfl,by simp,fun _=>.nil,fun i r hr=>by simp at hr,.inl ⟨rfl,rfl⟩⟩
 | slice _ e' rows D spare h1 hl h=>rw [hu] at h1; cases h1; exact ⟨rows,rfl,hl,D,h,.inr ⟨spare,rfl⟩⟩
 | _=>simp_all
end
def Of (P:Program)(t:TypeId)(cs:List AV):Prop:=∃ (H:Type) (d:DataW H),XQ P t cs d
theorem XQ.of {H:Type}{P:Program}{t:TypeId}{cs:List AV}{d:DataW H}(h:XQ P t cs d):Of P t cs:=⟨H,d,h⟩
theorem Of.toStr {P:Program}{t:TypeId}{cs:List AV}(h:Of P t cs)(hu:P.underlying t=some .string):∃ s,cs=[.str s]∧s.length≤140737488351232:=by
 obtain ⟨H,d,h⟩:=h; obtain ⟨x,h1,_,h2⟩:=h.toStr hu; exact ⟨x,h1,h2⟩
theorem Of.toSlice {P:Program}{t:TypeId}{cs:List AV}(h:Of P t cs){e:TypeId}(hu:P.underlying t=some (.slice e)):∃ rows,cs=[.lst (P.cellsOf e) rows]∧rows.length * P.bytesOf e≤140737488351232∧∀ r ∈ rows,Of P e r:=by
 obtain ⟨H,d,h⟩:=h
 obtain ⟨rows,h1,h2,D,h3,_⟩:=h.toSlice hu
 exact ⟨rows,h1,h2,fun r hr=>by obtain ⟨i,hi⟩:=List.mem_iff_getElem?.1 hr; exact (h3 i r hi).of⟩
variable {H:Type}{enc:TypeId×Value→H}{P:Program}{w:World}{base:Nat}{sp:Nat→Bool}{held:Bool}{Γ:Ghost}
theorem KL {t e:TypeId}{fuel:Nat}{cs:List Value}{x:DataW H×List MemPlace}(ht:P.underlying t=some (.slice e))(h:DataW.trod enc P w base sp held (fuel + 1) t cs=some x) :
  (cs=[.slice none 0 0]∧x=(.nil,[])) ∨
  ∃ (a:Addr) (len cap m n:Nat) (D:Nat→DataW H) (Pl:Nat→List MemPlace),n=fuel∧cs=[.slice (some a) len cap]∧base≤a.block∧len≤cap∧cap≤maxLen∧m=(if sp a.block then cap else len) ∧
   x=(.slice ((List.range len).map D) ((List.range (m - len)).map fun j=>D (len + j)),MemPlace.row a (m * P.cellsOf e) ++ (List.range m).flatMap Pl) ∧
   ∀ i,i < m→∃ cs',w.cells? base (a.add (i * P.cellsOf e)) (P.cellsOf e)=some cs'∧DataW.trod enc P w base sp held n e cs'=some (D i,Pl i):=by
 rcases DataW.trod_slice ht h with h0 | ⟨a,len,cap,elems,rest,n,hn,rfl,rfl,hb,hl,hm,hlen,hel,hsp,hns⟩
 ·exact Or.inl h0
 right
 have hrl:rest.length=(if sp a.block then cap else len) - len:=by
  cases hs:sp a.block with
  | true=>simpa [hs] using (hsp hs).1
  | false=>simp [hns hs]
 have hle:len≤(if sp a.block then cap else len):=by split <;> omega
 have hall:(elems ++ rest).length=(if sp a.block then cap else len):=by rw [List.length_append,hlen,hrl]; omega
 refine ⟨a,len,cap,_,n,fun i=>((elems ++ rest).getD i (.nil,[])).1,fun i=>((elems ++ rest).getD i (.nil,[])).2,by omega,rfl,hb,hl,hm,rfl,?_,?_⟩
 ·refine Prod.ext ?_ ?_
  ·show DataW.slice (elems.map (·.1)) (rest.map (·.1))=_
   congr 1
   ·rw [map_by_index elems (.nil,[]) (·.1),hlen]
    refine List.map_congr_left fun i hi=>?_
    have hi':i < elems.length:=by rw [hlen]; simpa using hi
    simp [List.getD,List.getElem?_append_left hi']
   ·rw [map_by_index rest (.nil,[]) (·.1),hrl]
    refine List.map_congr_left fun j _=>?_
    simp [List.getD,List.getElem?_append_right (show elems.length≤len + j by omega),hlen]
  ·show MemPlace.row a ((elems.length + rest.length) * P.cellsOf e) ++ (elems ++ rest).flatMap (·.2)=_
   rw [flatMap_by_index (elems ++ rest) (.nil,[]) (·.2),hall,← List.length_append,hall]
 ·intro i hi
  have key:(w.cells? base (a.add (i * P.cellsOf e)) (P.cellsOf e)).bind (DataW.trod enc P w base sp held n e)=(elems ++ rest)[i]?:=by
   by_cases hil:i < len
   ·rw [hel i hil,List.getElem?_append_left (by omega)]
   ·have hs:sp a.block=true:=by
     cases hs:sp a.block with
     | true=>rfl
     | false=>simp [hs] at hi; omega
    have:=(hsp hs).2 (i - len) (by simp [hs] at hi; omega)
    rw [show len + (i - len)=i by omega] at this
    rw [this,List.getElem?_append_right (by omega),hlen]
  rw [List.getElem?_eq_getElem (by omega)] at key
  obtain ⟨cs',h1,h2⟩:=Option.bind_eq_some_iff.1 key
  refine ⟨cs',h1,?_⟩
  rw [h2]
  simp [List.getD,List.getElem?_eq_getElem (show i < (elems ++ rest).length by omega)]
theorem Vy (S:List TypeId)(fuel:Nat)(cs:List Value)
  (ih:∀ (t:TypeId) (cs:List Value) (x:DataW H×List MemPlace),S.contains t=true→DataW.trod enc P w base sp held fuel t cs=some x→(∀ y ∈ x.1.weights P t,y≤reachBytes)→∃ az:List AV,XQ P t az x.1∧az.length=cs.length∧∀ j a,az[j]? = some a→CellRep Γ w a (cs.getD j Go.undef)) :
  ∀ (fs:List Field) (xs:List (DataW H×List MemPlace)) (o m:Nat),tile P fs o m=true→m=cs.length→(fs.all fun f=>S.contains f.type)=true→(∀ (i:Nat) (f:Field),fs[i]? = some f→∃ x,xs[i]? = some x∧DataW.trod enc P w base sp held fuel f.type ((cs.drop f.offset).take (P.cellsOf f.type))=some x∧∀ y ∈ x.1.weights P f.type,y≤reachBytes) →
   o≤m∧∃ az:List AV,az.length=m - o∧(∀ (i:Nat) (f:Field),fs[i]? = some f→o≤f.offset∧∃ x,xs[i]? = some x∧XQ P f.type ((az.drop (f.offset - o)).take (P.cellsOf f.type)) x.1)∧∀ j a,az[j]? = some a→CellRep Γ w a (cs.getD (o + j) Go.undef)
 | [],xs,o,m,ht,hm,_,_=>by
  have:o=m:=by simpa [tile] using ht
  subst this
  exact ⟨Nat.le_refl _,[],by simp,fun i f hf=>by simp at hf,fun j a h=>by simp at h⟩
 | f :: r,xs,o,m,ht,hm,hok,hx=>by
  simp only [tile,Bool.and_eq_true,beq_iff_eq] at ht
  simp only [List.all_cons,Bool.and_eq_true] at hok
  obtain ⟨x,hx0,hxf,hxw⟩:=hx 0 f rfl
  obtain ⟨xs,rfl⟩:∃ xs',xs=x :: xs':=by
   cases xs with
   | nil=>simp at hx0
   | cons y ys=>simp at hx0; exact ⟨ys,by rw [hx0]⟩
  obtain ⟨hle,az,hl,hs,hr⟩:=Vy S fuel cs ih r xs _ m ht.2 hm hok.2 (fun i g hg=>hx (i + 1) g hg)
  obtain ⟨a1,s1,l1,r1⟩:=ih _ _ _ hok.1 hxf hxw
  have hlen:((cs.drop f.offset).take (P.cellsOf f.type)).length=P.cellsOf f.type:=by
   rw [List.length_take,List.length_drop]; omega
  rw [hlen] at l1
  refine ⟨by omega,a1 ++ az,by rw [List.length_append]; omega,fun i g hg=>?_,fun j a hj=>?_⟩
  ·cases i with
   | zero =>
    simp only [List.getElem?_cons_zero,Option.some.injEq] at hg
    subst hg
    refine ⟨by omega,x,rfl,?_⟩
    rw [ht.1,Nat.sub_self,List.drop_zero,List.take_append_of_le_length (by omega),List.take_of_length_le (by omega)]
    exact s1
   | succ i =>
    simp only [List.getElem?_cons_succ] at hg
    obtain ⟨q1,q2⟩:=hs i g hg
    refine ⟨by omega,?_⟩
    rw [List.drop_append,List.drop_eq_nil_of_le (by omega),List.nil_append,l1]
    rw [show g.offset - o - P.cellsOf f.type=g.offset - (o + P.cellsOf f.type) by omega]
    simpa using q2
  ·by_cases hj2:j < a1.length
   ·rw [List.getElem?_append_left hj2] at hj
    have:=r1 j a hj
    have e:((cs.drop f.offset).take (P.cellsOf f.type)).getD j Go.undef=cs.getD (o + j) Go.undef:=by
     rw [List.getD_eq_getElem?_getD,List.getD_eq_getElem?_getD,List.getElem?_take_of_lt (by omega),List.getElem?_drop,ht.1]
    rwa [e] at this
   ·rw [List.getElem?_append_right (by omega)] at hj
    have:=hr _ a hj
    rwa [show o + P.cellsOf f.type + (j - a1.length)=o + j by omega] at this
theorem XI (hΓ:∀ b,Γ b=.imm){S:List TypeId}(hS:Rz P S=true):∀ (fuel:Nat) (t:TypeId) (cs:List Value) (x:DataW H×List MemPlace),S.contains t=true→DataW.trod enc P w base sp held fuel t cs=some x→(∀ y ∈ x.1.weights P t,y≤reachBytes) →
  ∃ az:List AV,XQ P t az x.1∧az.length=cs.length∧∀ j a,az[j]? = some a→CellRep Γ w a (cs.getD j Go.undef)
 | 0,_,_,_,_,h,_=>by cases h
 | fuel + 1,t,cs,x,hc,h,hwt=>by
  have ho:=List.all_eq_true.1 hS t (by simpa using hc)
  cases hu:P.underlying t with
  | none=>simp [hu] at ho
  | some d =>
  have one:∀ (c:AV) (v:Value),CellRep Γ w c v→∀ j a,[c][j]? = some a→CellRep Γ w a ([v].getD j Go.undef):=fun c v hc j a hj=>by
   match j,hj with
   | 0,hj=>cases hj; exact hc
   | j + 1,hj=>simp at hj
  cases d <;> simp only [hu,Bool.false_eq_true] at ho
  case bool =>
   obtain ⟨b,rfl,rfl⟩:=DataW.trod_bool hu h
   exact ⟨[.bool b],.bool t b hu,rfl,one _ _ ⟨.bool b,rfl,rfl,fun k r e=>by cases e⟩⟩
  case int k =>
   obtain ⟨x,rfl,rfl,hw⟩:=DataW.trod_int hu h
   exact ⟨[.int k x],.int t k x hu hw,rfl,one _ _ ⟨.int k x,rfl,rfl,fun k r e=>by cases e⟩⟩
  case string =>
   obtain ⟨b,rfl,rfl,hb⟩:=DataW.trod_string hu h
   have e:b=⟨b.data.toList.toArray⟩:=by cases b; simp
   refine ⟨[.str b.data.toList],.str t _ hu (reach_lt (hwt _ (by simp [DataW.weights]))),rfl,one _ _ ⟨?_,rfl,rfl,fun k r e=>by cases e⟩⟩
   have:Rep Γ w (.str b.data.toList) (.string ⟨b.data.toList.toArray⟩):=.str _
   rwa [← e] at this
  case slice e =>
   simp only [Bool.and_eq_true,decide_eq_true_eq] at ho
   rcases KL hu h with ⟨rfl,rfl⟩ | ⟨A,len,cap,m,n',D,Pl,hn',rfl,hb,hl,hm,hmm,rfl,hi⟩
   ·exact ⟨[.lst (P.cellsOf e) []],.nil t e hu,rfl,one _ _ ⟨.lstNil _,rfl,rfl,fun k r e=>by cases e⟩⟩
   ·have hlm:len≤m:=by rw [hmm]; split <;> omega
    have hwe:∀ i,i < len→∀ y ∈ (D i).weights P e,y≤reachBytes:=fun i hi y hy=>by
     refine hwt y ?_
     simp only [DataW.weights,hu]
     exact List.mem_cons_of_mem _ (List.mem_append_left _ (wts_all (List.mem_map.2 ⟨i,by simpa using hi,rfl⟩) hy))
    have hlr:len * P.bytesOf e≤140737488351232:=by
     refine reach_lt (Nat.le_trans ?_ (hwt ((((List.range len).map D).length + ((List.range (m - len)).map fun j=>D (len + j)).length) * P.bytesOf e) ?_))
     ·simp only [List.length_map,List.length_range]
      exact Nat.mul_le_mul_right _ (Nat.le_add_right _ _)
     ·simp only [DataW.weights,hu]
      exact List.mem_cons_self ..
    have hrow:∀ i,∃ r:List AV,i < len→XQ P e r (D i)∧r.length=P.cellsOf e∧∀ j a,r[j]? = some a→w.cell? ((A.add (i * P.cellsOf e)).add j)=some ((w.cell? ((A.add (i * P.cellsOf e)).add j)).getD Go.undef)∧CellRep Γ w a ((w.cell? ((A.add (i * P.cellsOf e)).add j)).getD Go.undef):=fun i=>by
     by_cases hil:i < len
     ·obtain ⟨cs',hc,ht⟩:=hi i (by omega)
      obtain ⟨_,hlen,hcell⟩:=World.cells?_some hc
      obtain ⟨r,s1,l1,r1⟩:=XI hΓ hS n' e cs' _ ho.2 ht (hwe i hil)
      refine ⟨r,fun _=>⟨s1,by omega,fun j a hj=>?_⟩⟩
      have hjl:j < r.length:=(List.getElem?_eq_some_iff.1 hj).1
      have hc2:=hcell j (by omega)
      have hr:=r1 j a hj
      rw [List.getElem?_eq_getElem (by omega)] at hc2
      rw [List.getD_eq_getElem?_getD,List.getElem?_eq_getElem (by omega)] at hr
      rw [hc2]
      exact ⟨rfl,hr⟩
     ·exact ⟨[],fun h=>absurd h hil⟩
    have hf:∃ f:Nat→List AV,∀ i,i < len→XQ P e (f i) (D i)∧(f i).length=P.cellsOf e∧∀ j a,(f i)[j]? = some a→w.cell? ((A.add (i * P.cellsOf e)).add j)=some ((w.cell? ((A.add (i * P.cellsOf e)).add j)).getD Go.undef)∧CellRep Γ w a ((w.cell? ((A.add (i * P.cellsOf e)).add j)).getD Go.undef) :=
     ⟨fun i=>(hrow i).choose,fun i=>(hrow i).choose_spec⟩
    obtain ⟨f,hf⟩:=hf
    have hget:∀ (i:Nat) (r:List AV),((List.range len).map f)[i]? = some r→i < len∧r=f i:=fun i r hr=>by
     rw [List.getElem?_map] at hr
     obtain ⟨i',hi',rfl⟩:=Option.map_eq_some_iff.1 hr
     have hlt:=(List.getElem?_eq_some_iff.1 hi').1
     rw [List.length_range] at hlt
     rw [List.getElem?_range hlt] at hi'
     obtain rfl:=Option.some.inj hi'
     exact ⟨hlt,rfl⟩
    have hlenf:((List.range len).map f).length=len:=by simp
    have hsl:=XQ.slice (P := P) t e ((List.range len).map f) D ((List.range (m - len)).map fun j=>D (len + j)) hu (by simpa using hlr) (fun i r hr=>by obtain ⟨h1,rfl⟩:=hget i r hr; exact (hf i h1).1)
    rw [hlenf] at hsl
    refine ⟨[.lst (P.cellsOf e) ((List.range len).map f)],hsl,rfl,one _ _ ⟨?_,rfl,rfl,fun k r e=>by cases e⟩⟩
    ·by_cases hex:∃ (i j:Nat) (a:AV),i < len∧(f i)[j]? = some a
     ·obtain ⟨i0,j0,a0,hi0,hj0⟩:=hex
      have h0:∃ v,w.cell? A=some v:=by
       have hj0l:j0 < (f i0).length:=(List.getElem?_eq_some_iff.1 hj0).1
       have hpos:0 < P.cellsOf e:=by have:=(hf i0 hi0).2.1; omega
       have hz:=(hf 0 (by omega)).2.1
       have:=((hf 0 (by omega)).2.2 0 ((f 0)[0]'(by omega)) (List.getElem?_eq_getElem _)).1
       rw [Nat.zero_mul] at this
       have e1:(A.add 0).add 0=A:=by simp [Addr.add]
       rw [e1] at this
       exact ⟨_,this⟩
      have hsp:A.spot=none:=by
       obtain ⟨v,hv⟩:=h0
       unfold World.cell? at hv
       split at hv
       ·split at hv
        ·cases hv
        ·rename_i hs; simpa using hs
       ·cases hv
      obtain ⟨b,o,q⟩:=A
      simp only at hsp
      subst hsp
      have hadd:∀ i j,((⟨b,o,none⟩:Addr).add (i * P.cellsOf e)).add j=⟨b,o + (i * P.cellsOf e + j),none⟩:=fun i j=>by
       rw [Go.Deep.add_add]
       unfold Addr.add
       split
       ·rename_i h0; simp [h0]
       ·rfl
      have hll:len=((List.range len).map f).length:=by simp
      generalize hrows:(List.range len).map f=rows at *
      subst hll
      refine .lst _ rows b o cap (fun i j=>(w.cell? ⟨b,o + (i * P.cellsOf e + j),none⟩).getD Go.undef) hl (fun r hr=>?_) (fun i j r c hr hc=>?_) (fun i j r c hr hc=>?_)
      ·obtain ⟨i,hi⟩:=List.mem_iff_getElem?.1 hr
       obtain ⟨h1,rfl⟩:=hget i r hi
       exact (hf i h1).2.1
      ·obtain ⟨h1,rfl⟩:=hget i r hr
       have:=(hf i h1).2.2 j c hc
       rw [hadd] at this
       exact ⟨this.1,by show FixedK _ (Γ b); rw [hΓ]; trivial,this.2.2.2.1⟩
      ·obtain ⟨h1,rfl⟩:=hget i r hr
       have:=(hf i h1).2.2 j c hc
       rw [hadd] at this
       exact this.2.1
     ·have h0:len=0:=by
       rcases Nat.eq_zero_or_pos len with h0 | h0
       ·exact h0
       ·refine absurd ⟨0,0,(f 0)[0]'(by have:=(hf 0 h0).2.1; have:=ho.1.1; omega),h0,List.getElem?_eq_getElem _⟩ hex
      subst h0
      exact .lstE _ A cap
  case struct fs =>
   simp only [Bool.and_eq_true] at ho
   obtain ⟨xs,n',hn,rfl,hlen,hxl,hf⟩:=DataW.trod_struct hu h
   obtain ⟨_,az,l1,s1,r1⟩:=Vy S n' cs (fun t cs x=>XI hΓ hS n' t cs x) fs.toList xs 0 _ ho.1 hlen.symm ho.2 fun i f hf'=>by
    have hi':fs[i]? = some f:=by simpa using hf'
    have:=hf i f hi'
    have hlt:i < xs.length:=by rw [hxl]; exact (Array.getElem?_eq_some_iff.1 hi').1
    rw [List.getElem?_eq_getElem hlt] at this
    refine ⟨_,List.getElem?_eq_getElem hlt,this,fun y hy=>hwt y ?_⟩
    simp only [DataW.weights,hu]
    exact DataW.weights_mem_each (j := i) (t := f.type) (d := (xs[i]'hlt).1) (by simp [hi']) (by simp [List.getElem?_eq_getElem hlt]) y hy
   have hst:=XQ.struct (P := P) t fs az (fun i=>((xs.map (·.1))[i]?).getD .nil) hu (by omega) fun i f hf'=>by
    obtain ⟨_,x,hx,hsx⟩:=s1 i f hf'
    simpa [hx] using hsx
   have hds:(List.range fs.size).map (fun i=>((xs.map (·.1))[i]?).getD .nil)=xs.map (·.1):=by
    refine List.ext_getElem? fun i=>?_
    rw [List.getElem?_map]
    by_cases hi:i < fs.size
    ·rw [List.getElem?_range hi,Option.map_some,List.getElem?_map,List.getElem?_eq_getElem (by omega)]; rfl
    ·rw [List.getElem?_eq_none (by simpa using hi),List.getElem?_eq_none (by simp; omega)]; rfl
   rw [hds] at hst
   exact ⟨az,hst,by omega,fun j a hj=>by simpa using r1 j a hj⟩
theorem argS_slice (hΓ:∀ b,Γ b=.imm){S:List TypeId}(hS:Rz P S=true){r:Reach}{b0:Nat}{t e:TypeId}{v:Value}{d:DataW H}{ps:List MemPlace}(hc:S.contains t=true)(hu:P.underlying t=some (.slice e))(hv:Value.okWide P w r b0 t v)
  (h:DataW.Trod enc P w base sp held t v d ps) (hw:∀ y ∈ d.weights P t,y≤reachBytes):∃ rows,Rep Γ w (.lst (P.cellsOf e) rows) v∧XQ P t [.lst (P.cellsOf e) rows] d:=by
 obtain ⟨a,len,cap,rfl⟩:=okWide_slice hu hv
 obtain ⟨fuel,hf⟩:=h
 obtain ⟨az,s1,l1,r1⟩:=XI hΓ hS fuel t _ _ hc hf hw
 have s2:=s1
 obtain ⟨rows,rfl,_⟩:=s1.toSlice hu
 exact ⟨rows,(r1 0 _ rfl).1,s2⟩
end Go.Proofs.YtcfjcimhjmpkiaaGreatDoor.Abs
end
