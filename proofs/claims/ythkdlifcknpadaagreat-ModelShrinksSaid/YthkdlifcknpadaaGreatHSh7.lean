import Derived.Deep.Slices
import Derived.ChangeArms
import Derived.DataReads
import Derived.WideKeyArgs
import Derived.SizedLaws
import Derived.Test.YthkdlifcknpadaaGreatProg
import Derived.ProofKit
import Derived.Test.YthkdlifcknpadaaGreatHSh6
set_option linter.all false
section
namespace Go.Proofs.YthkdlifcknpadaaGreat.Abs
open Go Go.RowKit Go.ChangeShapes Go.WideShapes Go.Deep
def ZsS (P:Program):List Field→Nat→Nat→Bool
 | [],o,n=>o == n
 | f :: r,o,n=>(f.offset == o) && ZsS P r (o + P.cellsOf f.type) n
def ZnE {H:Type}(P:Program):Nat→TypeId→List AV→DataW H→Prop
 | 0,_,_,_=>False
 | n + 1,t,az,d=>match P.underlying t with
  | some .bool=>∃ b,az=[.bool b]∧d=.lit (.bool b)
  | some (.int k)=>∃ x,az=[.int k x]∧d=.lit (.int k x)∧(Lit.int k x).wf=true
  | some .string=>∃ s,az=[.str s]∧d=.lit (.string s)∧s.length≤140737488351232
  | some (.slice e)=>∃ rows,az=[.lst (P.cellsOf e) rows]∧rows.length≤140737488351232∧((rows=[]∧d=.nil)∨∃ D ds spare,d=.slice ds spare∧ds=(List.range rows.length).map D∧∀ (i:Nat) (r:List AV),rows[i]? = some r→ZnE P n e r (D i))
  | some (.struct fs)=>az.length=P.cellsOf t∧∃ ds,d=.agg ds∧ds.length=fs.size∧∀ (i:Nat) (f:Field),fs.toList[i]? = some f→∃ di,ds[i]? = some di∧ZnE P n f.type ((az.drop f.offset).take (P.cellsOf f.type)) di
  | _=>False
structure Shp {H:Type}(P:Program)(n:Nat)(t:TypeId)(az:List AV)(d:DataW H):Prop where
 ok:ZnE P n t az d
theorem Zh2 {n:Nat}(h:n≤reachBytes):n≤140737488351232:=h
theorem Shp.bool {H:Type}{P:Program}{n:Nat}{t:TypeId}{az:List AV}{d:DataW H}(h:Shp P (n + 1) t az d)(hu:P.underlying t=some .bool):∃ b,az=[.bool b]∧d=.lit (.bool b):=by
 have h:=h.ok; rw [ZnE,hu] at h; exact h
theorem Shp.int {H:Type}{P:Program}{n:Nat}{t:TypeId}{k:IntKind}{az:List AV}{d:DataW H}(h:Shp P (n + 1) t az d)(hu:P.underlying t=some (.int k)):∃ x,az=[.int k x]∧d=.lit (.int k x)∧k.min≤x∧x≤k.max:=by
 have h:=h.ok
 rw [ZnE,hu] at h
 obtain ⟨x,h1,h2,h3⟩:=h
 simp only [Lit.wf,Bool.and_eq_true,decide_eq_true_eq] at h3
 exact ⟨x,h1,h2,h3⟩
theorem Shp.i64 {H:Type}{P:Program}{n:Nat}{t:TypeId}{az:List AV}{d:DataW H}(h:Shp P (n + 1) t az d)(hu:P.underlying t=some (.int .i64)):∃ x,az=[.int .i64 x]∧d=.lit (.int .i64 x)∧-9223372036854775808≤x∧x≤9223372036854775807:=by
 obtain ⟨x,h1,h2,h3⟩:=h.int hu
 exact ⟨x,h1,h2,by simpa [IntKind.min,IntKind.max,IntKind.signed,IntKind.bits] using h3⟩
theorem Shp.str {H:Type}{P:Program}{n:Nat}{t:TypeId}{az:List AV}{d:DataW H}(h:Shp P (n + 1) t az d)(hu:P.underlying t=some .string):∃ s,az=[.str s]∧d=.lit (.string s)∧s.length≤140737488351232:=by
 have h:=h.ok; rw [ZnE,hu] at h; exact h
theorem Shp.slice {H:Type}{P:Program}{n:Nat}{t e:TypeId}{az:List AV}{d:DataW H}(h:Shp P (n + 1) t az d)(hu:P.underlying t=some (.slice e)):∃ rows,az=[.lst (P.cellsOf e) rows]∧rows.length≤140737488351232∧((rows=[]∧d=.nil)∨∃ D ds spare,d=.slice ds spare∧ds=(List.range rows.length).map D∧∀ (i:Nat) (r:List AV),rows[i]? = some r→Shp P n e r (D i)):=by
 have h:=h.ok
 rw [ZnE,hu] at h
 obtain ⟨rows,h1,h2,h3⟩:=h
 refine ⟨rows,h1,h2,h3.imp id ?_⟩
 rintro ⟨D,ds,spare,e1,e2,e3⟩
 exact ⟨D,ds,spare,e1,e2,fun i r hr=>⟨e3 i r hr⟩⟩
theorem Shp.struct {H:Type}{P:Program}{n:Nat}{t:TypeId}{fs:Array Field}{az:List AV}{d:DataW H}(h:Shp P (n + 1) t az d)(hu:P.underlying t=some (.struct fs)):az.length=P.cellsOf t∧∃ ds,d=.agg ds∧ds.length=fs.size∧∀ (i:Nat) (f:Field),fs.toList[i]? = some f→∃ di,ds[i]? = some di∧Shp P n f.type ((az.drop f.offset).take (P.cellsOf f.type)) di:=by
 have h:=h.ok
 rw [ZnE,hu] at h
 obtain ⟨h1,ds,h2,h3,h4⟩:=h
 exact ⟨h1,ds,h2,h3,fun i f hf=>let ⟨di,e1,e2⟩:=h4 i f hf; ⟨di,e1,⟨e2⟩⟩⟩
def Le (Γ:Zu)(w:World)(a:AV)(v:Value):Prop:=Rep Γ w a v∧a.one=true∧a.noId1=true∧∀ k r,a≠.own k r
variable {H:Type}{enc:TypeId×Value→H}{P:Program}{w:World}{base:Nat}{sp:Nat→Bool}{held:Bool}{Γ:Zu}
theorem Zly {H:Type}{P:Program}{e:TypeId}{d:DataW H}{y:Nat}:∀ {ds:List (DataW H)},d ∈ ds→y ∈ d.weights P e→y ∈ DataW.weightsAll P e ds
 | [],h,_=>by simp at h
 | z :: ds,h,hy=>by
  rw [DataW.weightsAll,List.mem_append]
  rcases List.mem_cons.1 h with rfl | h
  ·exact .inl hy
  ·exact .inr (Zly h hy)
theorem sized_arg {H:Type}{P:Program}{ts:List TypeId}{ds:List (DataW H)}(h:(DataW.weightsEach P ts ds).all (·≤reachBytes)=true){j:Nat}{t:TypeId}{d:DataW H}(ht:ts[j]? = some t)(hd:ds[j]? = some d):∀ y ∈ d.weights P t,y≤reachBytes:=fun y hy=>by
 have:=List.all_eq_true.1 h _ (DataW.weights_mem_each ht hd y hy)
 simpa using this
theorem arg_stays {t:TypeId}{v:Value}{d:DataW H}{ps:List MemPlace}{W W':World}(hl:laidOutB P=true)(hr:P.readableRec t=true)(hrow:t < P.types.size)(h:DataW.Trod enc P W 0 (fun _=>true) true t v d ps)(hb:Below W.heap.size W W')(hlt:∀ p ∈ ps,p.block < W.heap.size) :
  DataW.Trod enc P W' 0 (fun b=>decide (b < W.heap.size)) true t v d ps :=
 WideElems.Trod_stays hl hr hrow h (fun p hp=>hb.same (hlt p hp)) (fun p hp=>by simpa using hlt p hp)
end Go.Proofs.YthkdlifcknpadaaGreat.Abs
end
section
namespace Go.Proofs.YthkdlifcknpadaaGreat.Abs
open Go Go.RowKit Go.ChangeShapes Go.WideShapes Go.Deep
def Zp2 (P:Program)(S:List TypeId):Bool :=
 S.all fun t=>match P.underlying t with
  | some .bool=>true
  | some (.int _)=>true
  | some .string=>true
  | some (.slice e)=>(decide (0 < P.cellsOf e) && decide (0 < P.bytesOf e)) && S.contains e
  | some (.struct fs)=>ZsS P fs.toList 0 (P.cellsOf t) && fs.toList.all fun f=>S.contains f.type
  | _=>false
inductive Td {H:Type}(P:Program):TypeId→List AV→DataW H→Prop
 | bool (t:TypeId) (b:Bool) (hu:P.underlying t=some .bool):Td P t [.bool b] (.lit (.bool b))
 | int (t:TypeId) (k:IntKind) (x:Int) (hu:P.underlying t=some (.int k)) (hw:(Lit.int k x).wf=true):Td P t [.int k x] (.lit (.int k x))
 | str (t:TypeId) (s:List UInt8) (hu:P.underlying t=some .string) (hl:s.length≤140737488351232):Td P t [.str s] (.lit (.string s))
 | nil (t e:TypeId) (hu:P.underlying t=some (.slice e)):Td P t [.lst (P.cellsOf e) []] .nil
 | slice (t e:TypeId) (rows:List (List AV)) (D:Nat→DataW H) (spare:List (DataW H)) (hu:P.underlying t=some (.slice e)) (hl:rows.length * P.bytesOf e≤140737488351232) (h:∀ (i:Nat) (r:List AV),rows[i]? = some r→Td P e r (D i)) :
   Td P t [.lst (P.cellsOf e) rows] (.slice ((List.range rows.length).map D) spare)
 | struct (t:TypeId) (fs:Array Field) (cs:List AV) (D:Nat→DataW H) (hu:P.underlying t=some (.struct fs)) (hl:cs.length=P.cellsOf t)
   (h:∀ (i:Nat) (f:Field),fs.toList[i]? = some f→Td P f.type ((cs.drop f.offset).take (P.cellsOf f.type)) (D i)):Td P t cs (.agg ((List.range fs.size).map D))
section
variable {H:Type}{P:Program}{t:TypeId}{cs:List AV}{d:DataW H}
theorem Td.toBool (h:Td P t cs d)(hu:P.underlying t=some .bool):∃ b,cs=[.bool b]∧d=.lit (.bool b):=by
 cases h <;> rename_i h2 <;> first | exact ⟨_,rfl,rfl⟩ | (simp_all; done)
theorem Td.toInt (h:Td P t cs d){k:IntKind}(hu:P.underlying t=some (.int k)):∃ x,cs=[.int k x]∧d=.lit (.int k x)∧k.min≤x∧x≤k.max:=by
 cases h with
 | int _ k' x h1 hw =>
  rw [hu] at h1; cases h1
  simp only [Lit.wf,Bool.and_eq_true,decide_eq_true_eq] at hw
  exact ⟨x,rfl,rfl,hw⟩
 | _=>simp_all
theorem Td.toI64 (h:Td P t cs d)(hu:P.underlying t=some (.int .i64)):∃ x,cs=[.int .i64 x]∧d=.lit (.int .i64 x)∧-9223372036854775808≤x∧x≤9223372036854775807:=by
 obtain ⟨x,h1,h2,h3⟩:=h.toInt hu
 exact ⟨x,h1,h2,by simpa [IntKind.min,IntKind.max,IntKind.signed,IntKind.bits] using h3⟩
theorem Td.toStr (h:Td P t cs d)(hu:P.underlying t=some .string):∃ s,cs=[.str s]∧d=.lit (.string s)∧s.length≤140737488351232:=by
 cases h with
 | str _ s h1 hl=>exact ⟨s,rfl,rfl,hl⟩
 | _=>simp_all
theorem Td.toSlice (h:Td P t cs d){e:TypeId}(hu:P.underlying t=some (.slice e)):∃ rows,cs=[.lst (P.cellsOf e) rows]∧rows.length * P.bytesOf e≤140737488351232∧∃ D:Nat→DataW H,(∀ (i:Nat) (r:List AV),rows[i]? = some r→Td P e r (D i))∧((rows=[]∧d=.nil)∨∃ spare,d=.slice ((List.range rows.length).map D) spare):=by
 cases h with
 | nil _ e' h1=>rw [hu] at h1; cases h1; exact ⟨[],rfl,by simp,fun _=>.nil,fun i r hr=>by simp at hr,.inl ⟨rfl,rfl⟩⟩
 | slice _ e' rows D spare h1 hl h=>rw [hu] at h1; cases h1; exact ⟨rows,rfl,hl,D,h,.inr ⟨spare,rfl⟩⟩
 | _=>simp_all
theorem Td.toStruct (h:Td P t cs d){fs:Array Field}(hu:P.underlying t=some (.struct fs)):cs.length=P.cellsOf t∧∃ D:Nat→DataW H,d=.agg ((List.range fs.size).map D)∧∀ (i:Nat) (f:Field),fs.toList[i]? = some f→Td P f.type ((cs.drop f.offset).take (P.cellsOf f.type)) (D i):=by
 cases h with
 | struct _ fs' _ D h1 hl h=>rw [hu] at h1; cases h1; exact ⟨hl,D,rfl,h⟩
 | _=>simp_all
end
def Of (P:Program)(t:TypeId)(cs:List AV):Prop:=∃ (H:Type) (d:DataW H),Td P t cs d
theorem Td.of {H:Type}{P:Program}{t:TypeId}{cs:List AV}{d:DataW H}(h:Td P t cs d):Of P t cs:=⟨H,d,h⟩
theorem Of.toBool {P:Program}{t:TypeId}{cs:List AV}(h:Of P t cs)(hu:P.underlying t=some .bool):∃ b,cs=[.bool b]:=by
 obtain ⟨H,d,h⟩:=h; obtain ⟨b,h1,_⟩:=h.toBool hu; exact ⟨b,h1⟩
theorem Of.toInt {P:Program}{t:TypeId}{cs:List AV}(h:Of P t cs){k:IntKind}(hu:P.underlying t=some (.int k)):∃ x,cs=[.int k x]∧k.min≤x∧x≤k.max:=by
 obtain ⟨H,d,h⟩:=h; obtain ⟨x,h1,_,h2⟩:=h.toInt hu; exact ⟨x,h1,h2⟩
theorem Of.toI64 {P:Program}{t:TypeId}{cs:List AV}(h:Of P t cs)(hu:P.underlying t=some (.int .i64)):∃ x,cs=[.int .i64 x]∧-9223372036854775808≤x∧x≤9223372036854775807:=by
 obtain ⟨H,d,h⟩:=h; obtain ⟨x,h1,_,h2⟩:=h.toI64 hu; exact ⟨x,h1,h2⟩
theorem Of.toStr {P:Program}{t:TypeId}{cs:List AV}(h:Of P t cs)(hu:P.underlying t=some .string):∃ s,cs=[.str s]∧s.length≤140737488351232:=by
 obtain ⟨H,d,h⟩:=h; obtain ⟨x,h1,_,h2⟩:=h.toStr hu; exact ⟨x,h1,h2⟩
theorem Of.toSlice {P:Program}{t:TypeId}{cs:List AV}(h:Of P t cs){e:TypeId}(hu:P.underlying t=some (.slice e)):∃ rows,cs=[.lst (P.cellsOf e) rows]∧rows.length * P.bytesOf e≤140737488351232∧∀ r ∈ rows,Of P e r:=by
 obtain ⟨H,d,h⟩:=h
 obtain ⟨rows,h1,h2,D,h3,_⟩:=h.toSlice hu
 exact ⟨rows,h1,h2,fun r hr=>by obtain ⟨i,hi⟩:=List.mem_iff_getElem?.1 hr; exact (h3 i r hi).of⟩
theorem Of.toStruct {P:Program}{t:TypeId}{cs:List AV}(h:Of P t cs){fs:Array Field}(hu:P.underlying t=some (.struct fs)):cs.length=P.cellsOf t∧∀ (i:Nat) (f:Field),fs.toList[i]? = some f→Of P f.type ((cs.drop f.offset).take (P.cellsOf f.type)):=by
 obtain ⟨H,d,h⟩:=h
 obtain ⟨h1,D,_,h2⟩:=h.toStruct hu
 exact ⟨h1,fun i f hf=>(h2 i f hf).of⟩
variable {H:Type}{enc:TypeId×Value→H}{P:Program}{w:World}{base:Nat}{sp:Nat→Bool}{held:Bool}{Γ:Zu}
theorem Zf5 {t e:TypeId}{fuel:Nat}{cs:List Value}{x:DataW H×List MemPlace}(ht:P.underlying t=some (.slice e))(h:DataW.trod enc P w base sp held (fuel + 1) t cs=some x) :
  (cs=[.slice none 0 0]∧x=(.nil,[])) ∨
  ∃ (a:Addr) (len cap m n:Nat) (D:Nat→DataW H) (Pl:Nat→List MemPlace),n=fuel∧cs=[.slice (some a) len cap]∧base≤a.block∧len≤cap∧cap≤maxLen∧m=(if sp a.block then cap else len) ∧
   x=(.slice ((List.range len).map D) ((List.range (m - len)).map fun j=>D (len + j)),MemPlace.row a (m * P.cellsOf e) ++ (List.range m).flatMap Pl) ∧
   ∀ i,i < m→∃ cs',w.cells? base (a.add (i * P.cellsOf e)) (P.cellsOf e)=some cs'∧DataW.trod enc P w base sp held n e cs'=some (D i,Pl i):=by
 rcases DataW.trod_slice ht h with h0 | ⟨a,len,cap,elems,rest,n,hn,rfl,rfl,hb,hl,hm,hlen,hel,hsp,hns⟩
 ·exact Or.inl h0
 right
 have hrl:rest.length=(if sp a.block then cap else len) - len:=by
  cases hs:sp a.block with
  | true=>simpa [hs] using (hsp hs).1
  | false=>simp [hns hs]
 have hle:len≤(if sp a.block then cap else len):=by split <;> omega
 have hall:(elems ++ rest).length=(if sp a.block then cap else len):=by rw [List.length_append,hlen,hrl]; omega
 refine ⟨a,len,cap,_,n,fun i=>((elems ++ rest).getD i (.nil,[])).1,fun i=>((elems ++ rest).getD i (.nil,[])).2,by omega,rfl,hb,hl,hm,rfl,?_,?_⟩
 ·refine Prod.ext ?_ ?_
  ·show DataW.slice (elems.map (·.1)) (rest.map (·.1))=_
   congr 1
   ·rw [map_by_index elems (.nil,[]) (·.1),hlen]
    refine List.map_congr_left fun i hi=>?_
    have hi':i < elems.length:=by rw [hlen]; simpa using hi
    simp [List.getD,List.getElem?_append_left hi']
   ·rw [map_by_index rest (.nil,[]) (·.1),hrl]
    refine List.map_congr_left fun j _=>?_
    simp [List.getD,List.getElem?_append_right (show elems.length≤len + j by omega),hlen]
  ·show MemPlace.row a ((elems.length + rest.length) * P.cellsOf e) ++ (elems ++ rest).flatMap (·.2)=_
   rw [flatMap_by_index (elems ++ rest) (.nil,[]) (·.2),hall,← List.length_append,hall]
 ·intro i hi
  have key:(w.cells? base (a.add (i * P.cellsOf e)) (P.cellsOf e)).bind (DataW.trod enc P w base sp held n e)=(elems ++ rest)[i]?:=by
   by_cases hil:i < len
   ·rw [hel i hil,List.getElem?_append_left (by omega)]
   ·have hs:sp a.block=true:=by
     cases hs:sp a.block with
     | true=>rfl
     | false=>simp [hs] at hi; omega
    have:=(hsp hs).2 (i - len) (by simp [hs] at hi; omega)
    rw [show len + (i - len)=i by omega] at this
    rw [this,List.getElem?_append_right (by omega),hlen]
  rw [List.getElem?_eq_getElem (by omega)] at key
  obtain ⟨cs',h1,h2⟩:=Option.bind_eq_some_iff.1 key
  refine ⟨cs',h1,?_⟩
  rw [h2]
  simp [List.getD,List.getElem?_eq_getElem (show i < (elems ++ rest).length by omega)]
theorem Ap (S:List TypeId)(fuel:Nat)(cs:List Value)
  (ih:∀ (t:TypeId) (cs:List Value) (x:DataW H×List MemPlace),S.contains t=true→DataW.trod enc P w base sp held fuel t cs=some x→(∀ y ∈ x.1.weights P t,y≤reachBytes)→∃ az:List AV,Td P t az x.1∧az.length=cs.length∧∀ j a,az[j]? = some a→Le Γ w a (cs.getD j Go.undef)) :
  ∀ (fs:List Field) (xs:List (DataW H×List MemPlace)) (o m:Nat),ZsS P fs o m=true→m=cs.length→(fs.all fun f=>S.contains f.type)=true→(∀ (i:Nat) (f:Field),fs[i]? = some f→∃ x,xs[i]? = some x∧DataW.trod enc P w base sp held fuel f.type ((cs.drop f.offset).take (P.cellsOf f.type))=some x∧∀ y ∈ x.1.weights P f.type,y≤reachBytes) →
   o≤m∧∃ az:List AV,az.length=m - o∧(∀ (i:Nat) (f:Field),fs[i]? = some f→o≤f.offset∧∃ x,xs[i]? = some x∧Td P f.type ((az.drop (f.offset - o)).take (P.cellsOf f.type)) x.1)∧∀ j a,az[j]? = some a→Le Γ w a (cs.getD (o + j) Go.undef)
 | [],xs,o,m,ht,hm,_,_=>by
  have:o=m:=by simpa [ZsS] using ht
  subst this
  exact ⟨Nat.le_refl _,[],by simp,fun i f hf=>by simp at hf,fun j a h=>by simp at h⟩
 | f :: r,xs,o,m,ht,hm,hok,hx=>by
  simp only [ZsS,Bool.and_eq_true,beq_iff_eq] at ht
  simp only [List.all_cons,Bool.and_eq_true] at hok
  obtain ⟨x,hx0,hxf,hxw⟩:=hx 0 f rfl
  obtain ⟨xs,rfl⟩:∃ xs',xs=x :: xs':=by
   cases xs with
   | nil=>simp at hx0
   | cons y ys=>simp at hx0; exact ⟨ys,by rw [hx0]⟩
  obtain ⟨hle,az,hl,hs,hr⟩:=Ap S fuel cs ih r xs _ m ht.2 hm hok.2 (fun i g hg=>hx (i + 1) g hg)
  obtain ⟨a1,s1,l1,r1⟩:=ih _ _ _ hok.1 hxf hxw
  have hlen:((cs.drop f.offset).take (P.cellsOf f.type)).length=P.cellsOf f.type:=by
   rw [List.length_take,List.length_drop]; omega
  rw [hlen] at l1
  refine ⟨by omega,a1 ++ az,by rw [List.length_append]; omega,fun i g hg=>?_,fun j a hj=>?_⟩
  ·cases i with
   | zero =>
    simp only [List.getElem?_cons_zero,Option.some.injEq] at hg
    subst hg
    refine ⟨by omega,x,rfl,?_⟩
    rw [ht.1,Nat.sub_self,List.drop_zero,List.take_append_of_le_length (by omega),List.take_of_length_le (by omega)]
    exact s1
   | succ i =>
    simp only [List.getElem?_cons_succ] at hg
    obtain ⟨q1,q2⟩:=hs i g hg
    refine ⟨by omega,?_⟩
    rw [List.drop_append,List.drop_eq_nil_of_le (by omega),List.nil_append,l1]
    rw [show g.offset - o - P.cellsOf f.type=g.offset - (o + P.cellsOf f.type) by omega]
    simpa using q2
  ·by_cases hj2:j < a1.length
   ·rw [List.getElem?_append_left hj2] at hj
    have:=r1 j a hj
    have e:((cs.drop f.offset).take (P.cellsOf f.type)).getD j Go.undef=cs.getD (o + j) Go.undef:=by
     rw [List.getD_eq_getElem?_getD,List.getD_eq_getElem?_getD,List.getElem?_take_of_lt (by omega),List.getElem?_drop,ht.1]
    rwa [e] at this
   ·rw [List.getElem?_append_right (by omega)] at hj
    have:=hr _ a hj
    rwa [show o + P.cellsOf f.type + (j - a1.length)=o + j by omega] at this
theorem Ph (hΓ:∀ b,Γ b=.imm){S:List TypeId}(hS:Zp2 P S=true):∀ (fuel:Nat) (t:TypeId) (cs:List Value) (x:DataW H×List MemPlace),S.contains t=true→DataW.trod enc P w base sp held fuel t cs=some x→(∀ y ∈ x.1.weights P t,y≤reachBytes) →
  ∃ az:List AV,Td P t az x.1∧az.length=cs.length∧∀ j a,az[j]? = some a→Le Γ w a (cs.getD j Go.undef)
 | 0,_,_,_,_,h,_=>by cases h
 | fuel + 1,t,cs,x,hc,h,hwt=>by
  have ho:=List.all_eq_true.1 hS t (by simpa using hc)
  cases hu:P.underlying t with
  | none=>simp [hu] at ho
  | some d =>
  have one:∀ (c:AV) (v:Value),Le Γ w c v→∀ j a,[c][j]? = some a→Le Γ w a ([v].getD j Go.undef):=fun c v hc j a hj=>by
   match j,hj with
   | 0,hj=>cases hj; exact hc
   | j + 1,hj=>simp at hj
  cases d <;> simp only [hu,Bool.false_eq_true] at ho
  case bool =>
   obtain ⟨b,rfl,rfl⟩:=DataW.trod_bool hu h
   exact ⟨[.bool b],.bool t b hu,rfl,one _ _ ⟨.bool b,rfl,rfl,fun k r e=>by cases e⟩⟩
  case int k =>
   obtain ⟨x,rfl,rfl,hw⟩:=DataW.trod_int hu h
   exact ⟨[.int k x],.int t k x hu hw,rfl,one _ _ ⟨.int k x,rfl,rfl,fun k r e=>by cases e⟩⟩
  case string =>
   obtain ⟨b,rfl,rfl,hb⟩:=DataW.trod_string hu h
   have e:b=⟨b.data.toList.toArray⟩:=by cases b; simp
   refine ⟨[.str b.data.toList],.str t _ hu (Zh2 (hwt _ (by simp [DataW.weights]))),rfl,one _ _ ⟨?_,rfl,rfl,fun k r e=>by cases e⟩⟩
   have:Rep Γ w (.str b.data.toList) (.string ⟨b.data.toList.toArray⟩):=.str _
   rwa [← e] at this
  case slice e =>
   simp only [Bool.and_eq_true,decide_eq_true_eq] at ho
   rcases Zf5 hu h with ⟨rfl,rfl⟩ | ⟨A,len,cap,m,n',D,Pl,hn',rfl,hb,hl,hm,hmm,rfl,hi⟩
   ·exact ⟨[.lst (P.cellsOf e) []],.nil t e hu,rfl,one _ _ ⟨.lstNil _,rfl,rfl,fun k r e=>by cases e⟩⟩
   ·have hlm:len≤m:=by rw [hmm]; split <;> omega
    have hwe:∀ i,i < len→∀ y ∈ (D i).weights P e,y≤reachBytes:=fun i hi y hy=>by
     refine hwt y ?_
     simp only [DataW.weights,hu]
     exact List.mem_cons_of_mem _ (List.mem_append_left _ (Zly (List.mem_map.2 ⟨i,by simpa using hi,rfl⟩) hy))
    have hlr:len * P.bytesOf e≤140737488351232:=by
     refine Zh2 (Nat.le_trans ?_ (hwt ((((List.range len).map D).length + ((List.range (m - len)).map fun j=>D (len + j)).length) * P.bytesOf e) ?_))
     ·simp only [List.length_map,List.length_range]
      exact Nat.mul_le_mul_right _ (Nat.le_add_right _ _)
     ·simp only [DataW.weights,hu]
      exact List.mem_cons_self ..
    have hrow:∀ i,∃ r:List AV,i < len→Td P e r (D i)∧r.length=P.cellsOf e∧∀ j a,r[j]? = some a→w.cell? ((A.add (i * P.cellsOf e)).add j)=some ((w.cell? ((A.add (i * P.cellsOf e)).add j)).getD Go.undef)∧Le Γ w a ((w.cell? ((A.add (i * P.cellsOf e)).add j)).getD Go.undef):=fun i=>by
     by_cases hil:i < len
     ·obtain ⟨cs',hc,ht⟩:=hi i (by omega)
      obtain ⟨_,hlen,hcell⟩:=World.cells?_some hc
      obtain ⟨r,s1,l1,r1⟩:=Ph hΓ hS n' e cs' _ ho.2 ht (hwe i hil)
      refine ⟨r,fun _=>⟨s1,by omega,fun j a hj=>?_⟩⟩
      have hjl:j < r.length:=(List.getElem?_eq_some_iff.1 hj).1
      have hc2:=hcell j (by omega)
      have hr:=r1 j a hj
      rw [List.getElem?_eq_getElem (by omega)] at hc2
      rw [List.getD_eq_getElem?_getD,List.getElem?_eq_getElem (by omega)] at hr
      rw [hc2]
      exact ⟨rfl,hr⟩
     ·exact ⟨[],fun h=>absurd h hil⟩
    have hf:∃ f:Nat→List AV,∀ i,i < len→Td P e (f i) (D i)∧(f i).length=P.cellsOf e∧∀ j a,(f i)[j]? = some a→w.cell? ((A.add (i * P.cellsOf e)).add j)=some ((w.cell? ((A.add (i * P.cellsOf e)).add j)).getD Go.undef)∧Le Γ w a ((w.cell? ((A.add (i * P.cellsOf e)).add j)).getD Go.undef) :=
     ⟨fun i=>(hrow i).choose,fun i=>(hrow i).choose_spec⟩
    obtain ⟨f,hf⟩:=hf
    have hget:∀ (i:Nat) (r:List AV),((List.range len).map f)[i]? = some r→i < len∧r=f i:=fun i r hr=>by
     rw [List.getElem?_map] at hr
     obtain ⟨i',hi',rfl⟩:=Option.map_eq_some_iff.1 hr
     have hlt:=(List.getElem?_eq_some_iff.1 hi').1
     rw [List.length_range] at hlt
     rw [List.getElem?_range hlt] at hi'
     obtain rfl:=Option.some.inj hi'
     exact ⟨hlt,rfl⟩
    have hlenf:((List.range len).map f).length=len:=by simp
    have hsl:=Td.slice (P := P) t e ((List.range len).map f) D ((List.range (m - len)).map fun j=>D (len + j)) hu (by simpa using hlr) (fun i r hr=>by obtain ⟨h1,rfl⟩:=hget i r hr; exact (hf i h1).1)
    rw [hlenf] at hsl
    refine ⟨[.lst (P.cellsOf e) ((List.range len).map f)],hsl,rfl,one _ _ ⟨?_,rfl,rfl,fun k r e=>by cases e⟩⟩
    ·by_cases hex:∃ (i j:Nat) (a:AV),i < len∧(f i)[j]? = some a
     ·obtain ⟨i0,j0,a0,hi0,hj0⟩:=hex
      have h0:∃ v,w.cell? A=some v:=by
       have hj0l:j0 < (f i0).length:=(List.getElem?_eq_some_iff.1 hj0).1
       have hpos:0 < P.cellsOf e:=by have:=(hf i0 hi0).2.1; omega
       have hz:=(hf 0 (by omega)).2.1
       have:=((hf 0 (by omega)).2.2 0 ((f 0)[0]'(by omega)) (List.getElem?_eq_getElem _)).1
       rw [Nat.zero_mul] at this
       have e1:(A.add 0).add 0=A:=by simp [Addr.add]
       rw [e1] at this
       exact ⟨_,this⟩
      have hsp:A.spot=none:=by
       obtain ⟨v,hv⟩:=h0
       unfold World.cell? at hv
       split at hv
       ·split at hv
        ·cases hv
        ·rename_i hs; simpa using hs
       ·cases hv
      obtain ⟨b,o,q⟩:=A
      simp only at hsp
      subst hsp
      have hadd:∀ i j,((⟨b,o,none⟩:Addr).add (i * P.cellsOf e)).add j=⟨b,o + (i * P.cellsOf e + j),none⟩:=fun i j=>by
       rw [Go.Deep.add_add]
       unfold Addr.add
       split
       ·rename_i h0; simp [h0]
       ·rfl
      have hll:len=((List.range len).map f).length:=by simp
      generalize hrows:(List.range len).map f=rows at *
      subst hll
      refine .lst _ rows b o cap (fun i j=>(w.cell? ⟨b,o + (i * P.cellsOf e + j),none⟩).getD Go.undef) hl (fun r hr=>?_) (fun i j r c hr hc=>?_) (fun i j r c hr hc=>?_)
      ·obtain ⟨i,hi⟩:=List.mem_iff_getElem?.1 hr
       obtain ⟨h1,rfl⟩:=hget i r hi
       exact (hf i h1).2.1
      ·obtain ⟨h1,rfl⟩:=hget i r hr
       have:=(hf i h1).2.2 j c hc
       rw [hadd] at this
       exact ⟨this.1,by show QR _ (Γ b); rw [hΓ]; trivial,this.2.2.2.1⟩
      ·obtain ⟨h1,rfl⟩:=hget i r hr
       have:=(hf i h1).2.2 j c hc
       rw [hadd] at this
       exact this.2.1
     ·have h0:len=0:=by
       rcases Nat.eq_zero_or_pos len with h0 | h0
       ·exact h0
       ·refine absurd ⟨0,0,(f 0)[0]'(by have:=(hf 0 h0).2.1; have:=ho.1.1; omega),h0,List.getElem?_eq_getElem _⟩ hex
      subst h0
      exact .lstE _ A cap
  case struct fs =>
   simp only [Bool.and_eq_true] at ho
   obtain ⟨xs,n',hn,rfl,hlen,hxl,hf⟩:=DataW.trod_struct hu h
   obtain ⟨_,az,l1,s1,r1⟩:=Ap S n' cs (fun t cs x=>Ph hΓ hS n' t cs x) fs.toList xs 0 _ ho.1 hlen.symm ho.2 fun i f hf'=>by
    have hi':fs[i]? = some f:=by simpa using hf'
    have:=hf i f hi'
    have hlt:i < xs.length:=by rw [hxl]; exact (Array.getElem?_eq_some_iff.1 hi').1
    rw [List.getElem?_eq_getElem hlt] at this
    refine ⟨_,List.getElem?_eq_getElem hlt,this,fun y hy=>hwt y ?_⟩
    simp only [DataW.weights,hu]
    exact DataW.weights_mem_each (j := i) (t := f.type) (d := (xs[i]'hlt).1) (by simp [hi']) (by simp [List.getElem?_eq_getElem hlt]) y hy
   have hst:=Td.struct (P := P) t fs az (fun i=>((xs.map (·.1))[i]?).getD .nil) hu (by omega) fun i f hf'=>by
    obtain ⟨_,x,hx,hsx⟩:=s1 i f hf'
    simpa [hx] using hsx
   have hds:(List.range fs.size).map (fun i=>((xs.map (·.1))[i]?).getD .nil)=xs.map (·.1):=by
    refine List.ext_getElem? fun i=>?_
    rw [List.getElem?_map]
    by_cases hi:i < fs.size
    ·rw [List.getElem?_range hi,Option.map_some,List.getElem?_map,List.getElem?_eq_getElem (by omega)]; rfl
    ·rw [List.getElem?_eq_none (by simpa using hi),List.getElem?_eq_none (by simp; omega)]; rfl
   rw [hds] at hst
   exact ⟨az,hst,by omega,fun j a hj=>by simpa using r1 j a hj⟩
theorem argS_struct (hΓ:∀ b,Γ b=.imm){S:List TypeId}(hS:Zp2 P S=true){r:Reach}{b0:Nat}{t:TypeId}{fs:Array Field}{v:Value}{d:DataW H}{ps:List MemPlace}(hc:S.contains t=true)(hu:P.underlying t=some (.struct fs))(hv:Value.okWide P w r b0 t v)
  (h:DataW.Trod enc P w base sp held t v d ps) (hw:∀ y ∈ d.weights P t,y≤reachBytes):∃ az,Rep Γ w (.agg az) v∧Td P t az d:=by
 obtain ⟨cs,rfl,hsz⟩:=okWide_struct hu hv
 obtain ⟨fuel,hf⟩:=h
 obtain ⟨az,s1,l1,r1⟩:=Ph hΓ hS fuel t _ _ hc hf hw
 have l2:az.length=cs.size:=by rw [l1]; rfl
 refine ⟨az,.agg az cs l2.symm (fun j c hc=>(r1 j c hc).2.1) (fun j k r hc=>absurd rfl ((r1 j _ hc).2.2.2 k r)) (fun j c hc=>?_),s1⟩
 have:=(r1 j c hc).1
 have e:(Value.agg cs).cells.toList.getD j Go.undef=cs.getD j Go.undef:=by
  show cs.toList.getD j Go.undef=_
  simp [List.getD_eq_getElem?_getD,Array.getD_eq_getD_getElem?]
 rwa [e] at this
end Go.Proofs.YthkdlifcknpadaaGreat.Abs
end
section
namespace Go.Proofs.YthkdlifcknpadaaGreat
open Go Go.RowKit Go.Proofs.YthkdlifcknpadaaGreat.Abs
set_option maxRecDepth 100000
set_option maxHeartbeats 0
theorem ZnV {α:Type _}{l:List α}{n:Nat}(h:l.length=n + 1):∃ a r,l=a :: r∧r.length=n:=by
 cases l with
 | nil=>simp at h
 | cons a r=>exact ⟨a,r,rfl,by simpa using h⟩
theorem QZ {P:Program}{t:TypeId}{l M:List AV}{k n:Nat}(h:Of P t ((l.drop k).take (P.cellsOf t)))(hn:P.cellsOf t=n)(hm:(l.drop k).take n=M):Of P t M:=by rw [hn,hm] at h; exact h
theorem Zia {α:Type _}{l:List α}{n:Nat}(h:l.length=n + 2):∃ a b r,l=a :: b :: r∧r.length=n:=by
 obtain ⟨a,r,rfl,h1⟩:=ZnV h
 obtain ⟨b,s,rfl,h2⟩:=ZnV h1
 exact ⟨a,b,s,rfl,h2⟩
theorem Zib {α:Type _}{l:List α}{n:Nat}(h:l.length=n + 3):∃ a b c r,l=a :: b :: c :: r∧r.length=n:=by
 obtain ⟨a,b,r,rfl,h1⟩:=Zia h
 obtain ⟨c,s,rfl,h2⟩:=ZnV h1
 exact ⟨a,b,c,s,rfl,h2⟩
theorem Gu {α:Type _}{l:List α}{n:Nat}(h:l.length=n + 4):∃ a b c d r,l=a :: b :: c :: d :: r∧r.length=n:=by
 obtain ⟨a,b,r,rfl,h1⟩:=Zia h
 obtain ⟨c,d,s,rfl,h2⟩:=Zia h1
 exact ⟨a,b,c,d,s,rfl,h2⟩
theorem ZjW {cs:List AV}{w k:Nat}{rows:List (List AV)}{r:List AV}(h1:AV.lst w rows ∈ cs)(h2:r ∈ rows)(h3:SizeOf.sizeOf cs≤k + 1):SizeOf.sizeOf r≤k:=by
 have a1:=List.sizeOf_lt_of_mem h1
 have a2:=List.sizeOf_lt_of_mem h2
 have a3:SizeOf.sizeOf (AV.lst w rows)=1 + SizeOf.sizeOf w + SizeOf.sizeOf rows:=by simp
 omega
theorem YT {α:Type}{Q:List AV→Prop}{row:α→List AV}{ok:α→Prop}:∀ {rows:List (List AV)},(∀ r ∈ rows,Q r→∃ x,r=row x∧ok x)→(∀ r ∈ rows,Q r)→∃ l:List α,rows=l.map row∧∀ x ∈ l,ok x
 | [],_,_=>⟨[],rfl,fun x h=>by cases h⟩
 | r :: rs,hq,h=>by
  obtain ⟨x,h1,h2⟩:=hq r (List.mem_cons_self ..) (h r (List.mem_cons_self ..))
  obtain ⟨l,h3,h4⟩:=YT (rows := rs) (fun y hy=>hq y (List.mem_cons_of_mem _ hy)) fun y hy=>h y (List.mem_cons_of_mem _ hy)
  exact ⟨x :: l,by rw [h1,h3]; rfl,fun y hy=>by
   rcases List.mem_cons.1 hy with rfl | hy
   ·exact h2
   ·exact h4 y hy⟩
def Zp3:List TypeId:=[26,9,22,68,66,3,23,39,31,78,70,155,76,74,71,72,32,81,79,33,83,34,35,87,84,89,85,187,181,185,182,183,4,36,91,37,50,48,47,24,41,207,191,209,200,202]
theorem ZmR:Zp2 Tryz.prog Zp3=true:=by kernel_rfl
theorem Zfb:Tryz.prog.bytesOf 3=8:=by kernel_rfl
theorem Zb8:Tryz.prog.cellsOf 3=1:=by kernel_rfl
theorem EX:Tryz.prog.bytesOf 9=16:=by kernel_rfl
theorem BF:Tryz.prog.cellsOf 9=1:=by kernel_rfl
theorem ZlJ:Tryz.prog.bytesOf 39=304:=by kernel_rfl
theorem Zjf:Tryz.prog.cellsOf 39=13:=by kernel_rfl
theorem ZlK:Tryz.prog.bytesOf 41=40:=by kernel_rfl
theorem Zjg:Tryz.prog.cellsOf 41=3:=by kernel_rfl
theorem ZlL:Tryz.prog.bytesOf 47=40:=by kernel_rfl
theorem Zjh:Tryz.prog.cellsOf 47=3:=by kernel_rfl
theorem ZlM:Tryz.prog.bytesOf 50=48:=by kernel_rfl
theorem Zji:Tryz.prog.cellsOf 50=3:=by kernel_rfl
theorem ZgA:Tryz.prog.bytesOf 68=32:=by kernel_rfl
theorem Zdx:Tryz.prog.cellsOf 68=3:=by kernel_rfl
theorem ZlN:Tryz.prog.bytesOf 78=232:=by kernel_rfl
theorem Zjj:Tryz.prog.cellsOf 78=17:=by kernel_rfl
theorem ZlO:Tryz.prog.bytesOf 81=32:=by kernel_rfl
theorem Zjk:Tryz.prog.cellsOf 81=3:=by kernel_rfl
theorem ZlP:Tryz.prog.bytesOf 83=32:=by kernel_rfl
theorem Zjl:Tryz.prog.cellsOf 83=3:=by kernel_rfl
theorem ZlQ:Tryz.prog.bytesOf 87=88:=by kernel_rfl
theorem Zjm:Tryz.prog.cellsOf 87=4:=by kernel_rfl
theorem ZgB:Tryz.prog.bytesOf 89=24:=by kernel_rfl
theorem Zdy:Tryz.prog.cellsOf 89=2:=by kernel_rfl
theorem ZlR:Tryz.prog.bytesOf 91=64:=by kernel_rfl
theorem Zjn:Tryz.prog.cellsOf 91=5:=by kernel_rfl
theorem Zja:Tryz.prog.bytesOf 155=16:=by kernel_rfl
theorem ZhM:Tryz.prog.cellsOf 155=2:=by kernel_rfl
theorem Zds:Tryz.prog.bytesOf 185=56:=by kernel_rfl
theorem ZaN:Tryz.prog.cellsOf 185=4:=by kernel_rfl
theorem EW:Tryz.prog.bytesOf 187=312:=by kernel_rfl
theorem Pg:Tryz.prog.cellsOf 187=21:=by kernel_rfl
theorem Zp1 {cs:List AV}(h:Of Tryz.prog 3 cs):∃ x:Int,cs=[.int .i64 x]∧(-9223372036854775808≤x∧x≤9223372036854775807):=h.toI64 Tryz.underlying3
theorem Zky {cs:List AV}(h:Of Tryz.prog 9 cs):∃ x:List UInt8,cs=[.str x]∧x.length≤140737488351232:=h.toStr Tryz.underlying9
theorem Zhh {cs:List AV}(h:Of Tryz.prog 68 cs):∃ x,cs=Xh x∧ZeX x:=by
 obtain ⟨hl,hf⟩:=h.toStruct Tryz.underlying68
 rw [show Tryz.prog.cellsOf 68=3 from by kernel_rfl] at hl
 obtain ⟨c0,c1,c2,r0,rfl,hl0⟩:=Zib hl
 obtain rfl:=List.eq_nil_of_length_eq_zero hl0
 have f0:Of Tryz.prog 9 [c0]:=QZ (hf 0 _ rfl) (n := 1) (by kernel_rfl) rfl
 obtain ⟨v0,q0,b0⟩:=f0.toStr Tryz.underlying9
 have f1:Of Tryz.prog 66 [c1]:=QZ (hf 1 _ rfl) (n := 1) (by kernel_rfl) rfl
 obtain ⟨v1,q1,b1⟩:=f1.toI64 Tryz.underlying66
 have f2:Of Tryz.prog 3 [c2]:=QZ (hf 2 _ rfl) (n := 1) (by kernel_rfl) rfl
 obtain ⟨v2,q2,b2⟩:=f2.toI64 Tryz.underlying3
 refine ⟨⟨v0,v1,v2⟩,?_,⟨b0,b1,b2⟩⟩
 have hc:([c0,c1,c2]:List AV)=[c0] ++ [c1] ++ [c2]:=rfl
 rw [hc]
 rw [q0,q1,q2]
 rfl
theorem Zkx {cs:List AV}(h:Of Tryz.prog 155 cs):∃ x,cs=P7 x∧Zg2 x:=by
 obtain ⟨hl,hf⟩:=h.toStruct Tryz.underlying155
 rw [show Tryz.prog.cellsOf 155=2 from by kernel_rfl] at hl
 obtain ⟨c0,c1,r0,rfl,hl0⟩:=Zia hl
 obtain rfl:=List.eq_nil_of_length_eq_zero hl0
 have f0:Of Tryz.prog 3 [c0]:=QZ (hf 0 _ rfl) (n := 1) (by kernel_rfl) rfl
 obtain ⟨v0,q0,b0⟩:=f0.toI64 Tryz.underlying3
 have f1:Of Tryz.prog 3 [c1]:=QZ (hf 1 _ rfl) (n := 1) (by kernel_rfl) rfl
 obtain ⟨v1,q1,b1⟩:=f1.toI64 Tryz.underlying3
 refine ⟨⟨v0,v1⟩,?_,⟨b0,b1⟩⟩
 have hc:([c0,c1]:List AV)=[c0] ++ [c1]:=rfl
 rw [hc]
 rw [q0,q1]
 rfl
theorem Zfx {cs:List AV}(h:Of Tryz.prog 74 cs):∃ x,cs=Zew x∧Jz x:=by
 obtain ⟨hl,hf⟩:=h.toStruct Tryz.underlying74
 rw [show Tryz.prog.cellsOf 74=6 from by kernel_rfl] at hl
 obtain ⟨c0,c1,c2,c3,r0,rfl,hl0⟩:=Gu hl
 obtain ⟨c4,c5,r4,rfl,hl4⟩:=Zia hl0
 obtain rfl:=List.eq_nil_of_length_eq_zero hl4
 have f0:Of Tryz.prog 71 [c0]:=QZ (hf 0 _ rfl) (n := 1) (by kernel_rfl) rfl
 obtain ⟨v0,q0,b0⟩:=f0.toI64 Tryz.underlying71
 have f1:Of Tryz.prog 3 [c1]:=QZ (hf 1 _ rfl) (n := 1) (by kernel_rfl) rfl
 obtain ⟨v1,q1,b1⟩:=f1.toI64 Tryz.underlying3
 have f2:Of Tryz.prog 3 [c2]:=QZ (hf 2 _ rfl) (n := 1) (by kernel_rfl) rfl
 obtain ⟨v2,q2,b2⟩:=f2.toI64 Tryz.underlying3
 have f3:Of Tryz.prog 3 [c3]:=QZ (hf 3 _ rfl) (n := 1) (by kernel_rfl) rfl
 obtain ⟨v3,q3,b3⟩:=f3.toI64 Tryz.underlying3
 have f4:Of Tryz.prog 72 [c4]:=QZ (hf 4 _ rfl) (n := 1) (by kernel_rfl) rfl
 obtain ⟨w4,q4,b4,m4⟩:=f4.toSlice Tryz.underlying72
 rw [Zb8] at q4
 rw [Zfb] at b4
 obtain ⟨v4,e4,n4⟩:=YT (row := (fun x=>[.int .i64 x])) (fun r hr hq=>Zp1 hq) m4
 replace b4:v4.length * 8≤140737488351232:=by rw [e4,List.length_map] at b4; exact b4
 have f5:Of Tryz.prog 72 [c5]:=QZ (hf 5 _ rfl) (n := 1) (by kernel_rfl) rfl
 obtain ⟨w5,q5,b5,m5⟩:=f5.toSlice Tryz.underlying72
 rw [Zb8] at q5
 rw [Zfb] at b5
 obtain ⟨v5,e5,n5⟩:=YT (row := (fun x=>[.int .i64 x])) (fun r hr hq=>Zp1 hq) m5
 replace b5:v5.length * 8≤140737488351232:=by rw [e5,List.length_map] at b5; exact b5
 refine ⟨⟨v0,v1,v2,v3,v4,v5⟩,?_,⟨b0,b1,b2,b3,⟨b4,n4⟩,⟨b5,n5⟩⟩⟩
 have hc:([c0,c1,c2,c3,c4,c5]:List AV)=[c0] ++ [c1] ++ [c2] ++ [c3] ++ [c4] ++ [c5]:=rfl
 rw [hc]
 rw [q0,q1,q2,q3,q4,q5]
 rw [e4,e5]
 rfl
theorem ZmF {cs:List AV}(h:Of Tryz.prog 76 cs):∃ x,cs=Zbj x∧ZeV x:=by
 obtain ⟨hl,hf⟩:=h.toStruct Tryz.underlying76
 rw [show Tryz.prog.cellsOf 76=13 from by kernel_rfl] at hl
 obtain ⟨c0,c1,c2,c3,r0,rfl,hl0⟩:=Gu hl
 obtain ⟨c4,c5,c6,c7,r4,rfl,hl4⟩:=Gu hl0
 obtain ⟨c8,c9,c10,c11,r8,rfl,hl8⟩:=Gu hl4
 obtain ⟨c12,r12,rfl,hl12⟩:=ZnV hl8
 obtain rfl:=List.eq_nil_of_length_eq_zero hl12
 have f0:Of Tryz.prog 9 [c0]:=QZ (hf 0 _ rfl) (n := 1) (by kernel_rfl) rfl
 obtain ⟨v0,q0,b0⟩:=f0.toStr Tryz.underlying9
 have f1:Of Tryz.prog 74 [c1,c2,c3,c4,c5,c6]:=QZ (hf 1 _ rfl) (n := 6) (by kernel_rfl) rfl
 obtain ⟨v1,q1,b1⟩:=Zfx f1
 have f2:Of Tryz.prog 74 [c7,c8,c9,c10,c11,c12]:=QZ (hf 2 _ rfl) (n := 6) (by kernel_rfl) rfl
 obtain ⟨v2,q2,b2⟩:=Zfx f2
 refine ⟨⟨v0,v1,v2⟩,?_,⟨b0,b1,b2⟩⟩
 have hc:([c0,c1,c2,c3,c4,c5,c6,c7,c8,c9,c10,c11,c12]:List AV)=[c0] ++ [c1,c2,c3,c4,c5,c6] ++ [c7,c8,c9,c10,c11,c12]:=rfl
 rw [hc]
 rw [q0,q1,q2]
 unfold Zbj; simp only [List.append_assoc,List.cons_append,List.nil_append]
theorem Fq {cs:List AV}(h:Of Tryz.prog 78 cs):∃ x,cs=QN x∧Wi x:=by
 obtain ⟨hl,hf⟩:=h.toStruct Tryz.underlying78
 rw [show Tryz.prog.cellsOf 78=17 from by kernel_rfl] at hl
 obtain ⟨c0,c1,c2,c3,r0,rfl,hl0⟩:=Gu hl
 obtain ⟨c4,c5,c6,c7,r4,rfl,hl4⟩:=Gu hl0
 obtain ⟨c8,c9,c10,c11,r8,rfl,hl8⟩:=Gu hl4
 obtain ⟨c12,c13,c14,c15,r12,rfl,hl12⟩:=Gu hl8
 obtain ⟨c16,r16,rfl,hl16⟩:=ZnV hl12
 obtain rfl:=List.eq_nil_of_length_eq_zero hl16
 have f0:Of Tryz.prog 9 [c0]:=QZ (hf 0 _ rfl) (n := 1) (by kernel_rfl) rfl
 obtain ⟨v0,q0,b0⟩:=f0.toStr Tryz.underlying9
 have f1:Of Tryz.prog 3 [c1]:=QZ (hf 1 _ rfl) (n := 1) (by kernel_rfl) rfl
 obtain ⟨v1,q1,b1⟩:=f1.toI64 Tryz.underlying3
 have f2:Of Tryz.prog 70 [c2]:=QZ (hf 2 _ rfl) (n := 1) (by kernel_rfl) rfl
 obtain ⟨w2,q2,b2,m2⟩:=f2.toSlice Tryz.underlying70
 rw [ZhM] at q2
 rw [Zja] at b2
 obtain ⟨v2,e2,n2⟩:=YT (row := P7) (fun r hr hq=>Zkx hq) m2
 replace b2:v2.length * 16≤140737488351232:=by rw [e2,List.length_map] at b2; exact b2
 have f3:Of Tryz.prog 3 [c3]:=QZ (hf 3 _ rfl) (n := 1) (by kernel_rfl) rfl
 obtain ⟨v3,q3,b3⟩:=f3.toI64 Tryz.underlying3
 have f4:Of Tryz.prog 76 [c4,c5,c6,c7,c8,c9,c10,c11,c12,c13,c14,c15,c16]:=QZ (hf 4 _ rfl) (n := 13) (by kernel_rfl) rfl
 obtain ⟨v4,q4,b4⟩:=ZmF f4
 refine ⟨⟨v0,v1,v2,v3,v4⟩,?_,⟨b0,b1,⟨b2,n2⟩,b3,b4⟩⟩
 have hc:([c0,c1,c2,c3,c4,c5,c6,c7,c8,c9,c10,c11,c12,c13,c14,c15,c16]:List AV)=[c0] ++ [c1] ++ [c2] ++ [c3] ++ [c4,c5,c6,c7,c8,c9,c10,c11,c12,c13,c14,c15,c16]:=rfl
 rw [hc]
 rw [q0,q1,q2,q3,q4]
 rw [e2]
 unfold QN; simp only [List.append_assoc,List.cons_append,List.nil_append]
theorem ZdQ {cs:List AV}(h:Of Tryz.prog 81 cs):∃ x,cs=U0 x∧Ep x:=by
 obtain ⟨hl,hf⟩:=h.toStruct Tryz.underlying81
 rw [show Tryz.prog.cellsOf 81=3 from by kernel_rfl] at hl
 obtain ⟨c0,c1,c2,r0,rfl,hl0⟩:=Zib hl
 obtain rfl:=List.eq_nil_of_length_eq_zero hl0
 have f0:Of Tryz.prog 9 [c0]:=QZ (hf 0 _ rfl) (n := 1) (by kernel_rfl) rfl
 obtain ⟨v0,q0,b0⟩:=f0.toStr Tryz.underlying9
 have f1:Of Tryz.prog 3 [c1]:=QZ (hf 1 _ rfl) (n := 1) (by kernel_rfl) rfl
 obtain ⟨v1,q1,b1⟩:=f1.toI64 Tryz.underlying3
 have f2:Of Tryz.prog 79 [c2]:=QZ (hf 2 _ rfl) (n := 1) (by kernel_rfl) rfl
 obtain ⟨v2,q2,b2⟩:=f2.toI64 Tryz.underlying79
 refine ⟨⟨v0,v1,v2⟩,?_,⟨b0,b1,b2⟩⟩
 have hc:([c0,c1,c2]:List AV)=[c0] ++ [c1] ++ [c2]:=rfl
 rw [hc]
 rw [q0,q1,q2]
 rfl
theorem Zfw {cs:List AV}(h:Of Tryz.prog 83 cs):∃ x,cs=Gy x∧Za6 x:=by
 obtain ⟨hl,hf⟩:=h.toStruct Tryz.underlying83
 rw [show Tryz.prog.cellsOf 83=3 from by kernel_rfl] at hl
 obtain ⟨c0,c1,c2,r0,rfl,hl0⟩:=Zib hl
 obtain rfl:=List.eq_nil_of_length_eq_zero hl0
 have f0:Of Tryz.prog 9 [c0]:=QZ (hf 0 _ rfl) (n := 1) (by kernel_rfl) rfl
 obtain ⟨v0,q0,b0⟩:=f0.toStr Tryz.underlying9
 have f1:Of Tryz.prog 3 [c1]:=QZ (hf 1 _ rfl) (n := 1) (by kernel_rfl) rfl
 obtain ⟨v1,q1,b1⟩:=f1.toI64 Tryz.underlying3
 have f2:Of Tryz.prog 3 [c2]:=QZ (hf 2 _ rfl) (n := 1) (by kernel_rfl) rfl
 obtain ⟨v2,q2,b2⟩:=f2.toI64 Tryz.underlying3
 refine ⟨⟨v0,v1,v2⟩,?_,⟨b0,b1,b2⟩⟩
 have hc:([c0,c1,c2]:List AV)=[c0] ++ [c1] ++ [c2]:=rfl
 rw [hc]
 rw [q0,q1,q2]
 rfl
theorem Zhg {cs:List AV}(h:Of Tryz.prog 89 cs):∃ x,cs=NF x∧Eo x:=by
 obtain ⟨hl,hf⟩:=h.toStruct Tryz.underlying89
 rw [show Tryz.prog.cellsOf 89=2 from by kernel_rfl] at hl
 obtain ⟨c0,c1,r0,rfl,hl0⟩:=Zia hl
 obtain rfl:=List.eq_nil_of_length_eq_zero hl0
 have f0:Of Tryz.prog 9 [c0]:=QZ (hf 0 _ rfl) (n := 1) (by kernel_rfl) rfl
 obtain ⟨v0,q0,b0⟩:=f0.toStr Tryz.underlying9
 have f1:Of Tryz.prog 66 [c1]:=QZ (hf 1 _ rfl) (n := 1) (by kernel_rfl) rfl
 obtain ⟨v1,q1,b1⟩:=f1.toI64 Tryz.underlying66
 refine ⟨⟨v0,v1⟩,?_,⟨b0,b1⟩⟩
 have hc:([c0,c1]:List AV)=[c0] ++ [c1]:=rfl
 rw [hc]
 rw [q0,q1]
 rfl
theorem Zcg:∀ (k:Nat) {cs:List AV},SizeOf.sizeOf cs≤k→Of Tryz.prog 185 cs→∃ x,cs=IG x∧YE x
 | 0,cs,hk,h=>by
  obtain ⟨hl,_⟩:=h.toStruct Tryz.underlying185
  rw [show Tryz.prog.cellsOf 185=4 from by kernel_rfl] at hl
  cases cs with
  | nil=>simp at hl
  | cons a r=>simp at hk
 | k + 1,cs,hk,h=>by
  obtain ⟨hl,hf⟩:=h.toStruct Tryz.underlying185
  rw [show Tryz.prog.cellsOf 185=4 from by kernel_rfl] at hl
  obtain ⟨c0,c1,c2,c3,r0,rfl,hl0⟩:=Gu hl
  obtain rfl:=List.eq_nil_of_length_eq_zero hl0
  have f0:Of Tryz.prog 182 [c0]:=QZ (hf 0 _ rfl) (n := 1) (by kernel_rfl) rfl
  obtain ⟨v0,q0,b0⟩:=f0.toI64 Tryz.underlying182
  have f1:Of Tryz.prog 9 [c1]:=QZ (hf 1 _ rfl) (n := 1) (by kernel_rfl) rfl
  obtain ⟨v1,q1,b1⟩:=f1.toStr Tryz.underlying9
  have f2:Of Tryz.prog 3 [c2]:=QZ (hf 2 _ rfl) (n := 1) (by kernel_rfl) rfl
  obtain ⟨v2,q2,b2⟩:=f2.toI64 Tryz.underlying3
  have f3:Of Tryz.prog 183 [c3]:=QZ (hf 3 _ rfl) (n := 1) (by kernel_rfl) rfl
  obtain ⟨w3,q3,b3,m3⟩:=f3.toSlice Tryz.underlying183
  rw [ZaN] at q3
  rw [Zds] at b3
  obtain ⟨v3,e3,n3⟩:=YT (row := IG) (ok := YE) (fun r hr hq=>Zcg k (ZjW (w := 4) (rows := w3) (by simp [(List.cons.inj q3).1]) hr hk) hq) m3
  replace b3:v3.length * 56≤140737488351232:=by rw [e3,List.length_map] at b3; exact b3
  refine ⟨⟨v0,v1,v2,v3⟩,?_,⟨_,b0,b1,b2,b3,n3⟩⟩
  have hc:([c0,c1,c2,c3]:List AV)=[c0] ++ [c1] ++ [c2] ++ [c3]:=rfl
  rw [hc]
  rw [q0,q1,q2,q3]
  rw [e3]
  rw [Zh0]; rfl
theorem Zfz:∀ (k:Nat) {cs:List AV},SizeOf.sizeOf cs≤k→Of Tryz.prog 187 cs→∃ x,cs=P8 x∧Y7 x
 | 0,cs,hk,h=>by
  obtain ⟨hl,_⟩:=h.toStruct Tryz.underlying187
  rw [show Tryz.prog.cellsOf 187=21 from by kernel_rfl] at hl
  cases cs with
  | nil=>simp at hl
  | cons a r=>simp at hk
 | k + 1,cs,hk,h=>by
  obtain ⟨hl,hf⟩:=h.toStruct Tryz.underlying187
  rw [show Tryz.prog.cellsOf 187=21 from by kernel_rfl] at hl
  obtain ⟨c0,c1,c2,c3,r0,rfl,hl0⟩:=Gu hl
  obtain ⟨c4,c5,c6,c7,r4,rfl,hl4⟩:=Gu hl0
  obtain ⟨c8,c9,c10,c11,r8,rfl,hl8⟩:=Gu hl4
  obtain ⟨c12,c13,c14,c15,r12,rfl,hl12⟩:=Gu hl8
  obtain ⟨c16,c17,c18,c19,r16,rfl,hl16⟩:=Gu hl12
  obtain ⟨c20,r20,rfl,hl20⟩:=ZnV hl16
  obtain rfl:=List.eq_nil_of_length_eq_zero hl20
  have f0:Of Tryz.prog 181 [c0]:=QZ (hf 0 _ rfl) (n := 1) (by kernel_rfl) rfl
  obtain ⟨v0,q0,b0⟩:=f0.toI64 Tryz.underlying181
  have f1:Of Tryz.prog 9 [c1]:=QZ (hf 1 _ rfl) (n := 1) (by kernel_rfl) rfl
  obtain ⟨v1,q1,b1⟩:=f1.toStr Tryz.underlying9
  have f2:Of Tryz.prog 9 [c2]:=QZ (hf 2 _ rfl) (n := 1) (by kernel_rfl) rfl
  obtain ⟨v2,q2,b2⟩:=f2.toStr Tryz.underlying9
  have f3:Of Tryz.prog 185 [c3,c4,c5,c6]:=QZ (hf 3 _ rfl) (n := 4) (by kernel_rfl) rfl
  obtain ⟨v3,q3,b3⟩:=Zcg _ (Nat.le_refl _) f3
  have f4:Of Tryz.prog 185 [c7,c8,c9,c10]:=QZ (hf 4 _ rfl) (n := 4) (by kernel_rfl) rfl
  obtain ⟨v4,q4,b4⟩:=Zcg _ (Nat.le_refl _) f4
  have f5:Of Tryz.prog 183 [c11]:=QZ (hf 5 _ rfl) (n := 1) (by kernel_rfl) rfl
  obtain ⟨w5,q5,b5,m5⟩:=f5.toSlice Tryz.underlying183
  rw [ZaN] at q5
  rw [Zds] at b5
  obtain ⟨v5,e5,n5⟩:=YT (row := IG) (ok := YE) (fun r hr hq=>Zcg _ (Nat.le_refl _) hq) m5
  replace b5:v5.length * 56≤140737488351232:=by rw [e5,List.length_map] at b5; exact b5
  have f6:Of Tryz.prog 74 [c12,c13,c14,c15,c16,c17]:=QZ (hf 6 _ rfl) (n := 6) (by kernel_rfl) rfl
  obtain ⟨v6,q6,b6⟩:=Zfx f6
  have f7:Of Tryz.prog 4 [c18]:=QZ (hf 7 _ rfl) (n := 1) (by kernel_rfl) rfl
  obtain ⟨v7,q7⟩:=f7.toBool Tryz.underlying4
  have b7:True:=trivial
  have f8:Of Tryz.prog 85 [c19]:=QZ (hf 8 _ rfl) (n := 1) (by kernel_rfl) rfl
  obtain ⟨w8,q8,b8,m8⟩:=f8.toSlice Tryz.underlying85
  rw [Pg] at q8
  rw [EW] at b8
  obtain ⟨v8,e8,n8⟩:=YT (row := P8) (ok := Y7) (fun r hr hq=>Zfz k (ZjW (w := 21) (rows := w8) (by simp [(List.cons.inj q8).1]) hr hk) hq) m8
  replace b8:v8.length * 312≤140737488351232:=by rw [e8,List.length_map] at b8; exact b8
  have f9:Of Tryz.prog 85 [c20]:=QZ (hf 9 _ rfl) (n := 1) (by kernel_rfl) rfl
  obtain ⟨w9,q9,b9,m9⟩:=f9.toSlice Tryz.underlying85
  rw [Pg] at q9
  rw [EW] at b9
  obtain ⟨v9,e9,n9⟩:=YT (row := P8) (ok := Y7) (fun r hr hq=>Zfz k (ZjW (w := 21) (rows := w9) (by simp [(List.cons.inj q9).1]) hr hk) hq) m9
  replace b9:v9.length * 312≤140737488351232:=by rw [e9,List.length_map] at b9; exact b9
  refine ⟨⟨v0,v1,v2,v3,v4,v5,v6,v7,v8,v9⟩,?_,⟨_,b0,b1,b2,b3,b4,b5,n5,b6,b7,b8,n8,b9,n9⟩⟩
  have hc:([c0,c1,c2,c3,c4,c5,c6,c7,c8,c9,c10,c11,c12,c13,c14,c15,c16,c17,c18,c19,c20]:List AV)=[c0] ++ [c1] ++ [c2] ++ [c3,c4,c5,c6] ++ [c7,c8,c9,c10] ++ [c11] ++ [c12,c13,c14,c15,c16,c17] ++ [c18] ++ [c19] ++ [c20]:=rfl
  rw [hc]
  rw [q0,q1,q2,q3,q4,q5,q6,q7,q8,q9]
  rw [e5,e8,e9]
  rw [Zh1]; simp only [List.append_assoc,List.cons_append,List.nil_append]
theorem Zih {cs:List AV}(h:Of Tryz.prog 87 cs):∃ x,cs=Tv x∧KZ x:=by
 obtain ⟨hl,hf⟩:=h.toStruct Tryz.underlying87
 rw [show Tryz.prog.cellsOf 87=4 from by kernel_rfl] at hl
 obtain ⟨c0,c1,c2,c3,r0,rfl,hl0⟩:=Gu hl
 obtain rfl:=List.eq_nil_of_length_eq_zero hl0
 have f0:Of Tryz.prog 9 [c0]:=QZ (hf 0 _ rfl) (n := 1) (by kernel_rfl) rfl
 obtain ⟨v0,q0,b0⟩:=f0.toStr Tryz.underlying9
 have f1:Of Tryz.prog 84 [c1]:=QZ (hf 1 _ rfl) (n := 1) (by kernel_rfl) rfl
 obtain ⟨w1,q1,b1,m1⟩:=f1.toSlice Tryz.underlying84
 rw [Zdy] at q1
 rw [ZgB] at b1
 obtain ⟨v1,e1,n1⟩:=YT (row := NF) (fun r hr hq=>Zhg hq) m1
 replace b1:v1.length * 24≤140737488351232:=by rw [e1,List.length_map] at b1; exact b1
 have f2:Of Tryz.prog 84 [c2]:=QZ (hf 2 _ rfl) (n := 1) (by kernel_rfl) rfl
 obtain ⟨w2,q2,b2,m2⟩:=f2.toSlice Tryz.underlying84
 rw [Zdy] at q2
 rw [ZgB] at b2
 obtain ⟨v2,e2,n2⟩:=YT (row := NF) (fun r hr hq=>Zhg hq) m2
 replace b2:v2.length * 24≤140737488351232:=by rw [e2,List.length_map] at b2; exact b2
 have f3:Of Tryz.prog 85 [c3]:=QZ (hf 3 _ rfl) (n := 1) (by kernel_rfl) rfl
 obtain ⟨w3,q3,b3,m3⟩:=f3.toSlice Tryz.underlying85
 rw [Pg] at q3
 rw [EW] at b3
 obtain ⟨v3,e3,n3⟩:=YT (row := P8) (ok := Y7) (fun r hr hq=>Zfz _ (Nat.le_refl _) hq) m3
 replace b3:v3.length * 312≤140737488351232:=by rw [e3,List.length_map] at b3; exact b3
 refine ⟨⟨v0,v1,v2,v3⟩,?_,⟨b0,⟨b1,n1⟩,⟨b2,n2⟩,⟨b3,n3⟩⟩⟩
 have hc:([c0,c1,c2,c3]:List AV)=[c0] ++ [c1] ++ [c2] ++ [c3]:=rfl
 rw [hc]
 rw [q0,q1,q2,q3]
 rw [e1,e2,e3]
 rfl
theorem ZmH {cs:List AV}(h:Of Tryz.prog 91 cs):∃ x,cs=Zbk x∧DW x:=by
 obtain ⟨hl,hf⟩:=h.toStruct Tryz.underlying91
 rw [show Tryz.prog.cellsOf 91=5 from by kernel_rfl] at hl
 obtain ⟨c0,c1,c2,c3,r0,rfl,hl0⟩:=Gu hl
 obtain ⟨c4,r4,rfl,hl4⟩:=ZnV hl0
 obtain rfl:=List.eq_nil_of_length_eq_zero hl4
 have f0:Of Tryz.prog 9 [c0]:=QZ (hf 0 _ rfl) (n := 1) (by kernel_rfl) rfl
 obtain ⟨v0,q0,b0⟩:=f0.toStr Tryz.underlying9
 have f1:Of Tryz.prog 72 [c1]:=QZ (hf 1 _ rfl) (n := 1) (by kernel_rfl) rfl
 obtain ⟨w1,q1,b1,m1⟩:=f1.toSlice Tryz.underlying72
 rw [Zb8] at q1
 rw [Zfb] at b1
 obtain ⟨v1,e1,n1⟩:=YT (row := (fun x=>[.int .i64 x])) (fun r hr hq=>Zp1 hq) m1
 replace b1:v1.length * 8≤140737488351232:=by rw [e1,List.length_map] at b1; exact b1
 have f2:Of Tryz.prog 3 [c2]:=QZ (hf 2 _ rfl) (n := 1) (by kernel_rfl) rfl
 obtain ⟨v2,q2,b2⟩:=f2.toI64 Tryz.underlying3
 have f3:Of Tryz.prog 3 [c3]:=QZ (hf 3 _ rfl) (n := 1) (by kernel_rfl) rfl
 obtain ⟨v3,q3,b3⟩:=f3.toI64 Tryz.underlying3
 have f4:Of Tryz.prog 3 [c4]:=QZ (hf 4 _ rfl) (n := 1) (by kernel_rfl) rfl
 obtain ⟨v4,q4,b4⟩:=f4.toI64 Tryz.underlying3
 refine ⟨⟨v0,v1,v2,v3,v4⟩,?_,⟨b0,⟨b1,n1⟩,b2,b3,b4⟩⟩
 have hc:([c0,c1,c2,c3,c4]:List AV)=[c0] ++ [c1] ++ [c2] ++ [c3] ++ [c4]:=rfl
 rw [hc]
 rw [q0,q1,q2,q3,q4]
 rw [e1]
 rfl
theorem Zp0 {cs:List AV}(h:Of Tryz.prog 47 cs):∃ x,cs=Zi2 x∧ZnC x:=by
 obtain ⟨hl,hf⟩:=h.toStruct Tryz.underlying47
 rw [show Tryz.prog.cellsOf 47=3 from by kernel_rfl] at hl
 obtain ⟨c0,c1,c2,r0,rfl,hl0⟩:=Zib hl
 obtain rfl:=List.eq_nil_of_length_eq_zero hl0
 have f0:Of Tryz.prog 3 [c0]:=QZ (hf 0 _ rfl) (n := 1) (by kernel_rfl) rfl
 obtain ⟨v0,q0,b0⟩:=f0.toI64 Tryz.underlying3
 have f1:Of Tryz.prog 9 [c1]:=QZ (hf 1 _ rfl) (n := 1) (by kernel_rfl) rfl
 obtain ⟨v1,q1,b1⟩:=f1.toStr Tryz.underlying9
 have f2:Of Tryz.prog 9 [c2]:=QZ (hf 2 _ rfl) (n := 1) (by kernel_rfl) rfl
 obtain ⟨v2,q2,b2⟩:=f2.toStr Tryz.underlying9
 refine ⟨⟨v0,v1,v2⟩,?_,⟨b0,b1,b2⟩⟩
 have hc:([c0,c1,c2]:List AV)=[c0] ++ [c1] ++ [c2]:=rfl
 rw [hc]
 rw [q0,q1,q2]
 rfl
theorem ZrM {cs:List AV}(h:Of Tryz.prog 50 cs):∃ x,cs=Zi1 x∧ZlD x:=by
 obtain ⟨hl,hf⟩:=h.toStruct Tryz.underlying50
 rw [show Tryz.prog.cellsOf 50=3 from by kernel_rfl] at hl
 obtain ⟨c0,c1,c2,r0,rfl,hl0⟩:=Zib hl
 obtain rfl:=List.eq_nil_of_length_eq_zero hl0
 have f0:Of Tryz.prog 9 [c0]:=QZ (hf 0 _ rfl) (n := 1) (by kernel_rfl) rfl
 obtain ⟨v0,q0,b0⟩:=f0.toStr Tryz.underlying9
 have f1:Of Tryz.prog 48 [c1]:=QZ (hf 1 _ rfl) (n := 1) (by kernel_rfl) rfl
 obtain ⟨w1,q1,b1,m1⟩:=f1.toSlice Tryz.underlying48
 rw [Zjh] at q1
 rw [ZlL] at b1
 obtain ⟨v1,e1,n1⟩:=YT (row := Zi2) (fun r hr hq=>Zp0 hq) m1
 replace b1:v1.length * 40≤140737488351232:=by rw [e1,List.length_map] at b1; exact b1
 have f2:Of Tryz.prog 3 [c2]:=QZ (hf 2 _ rfl) (n := 1) (by kernel_rfl) rfl
 obtain ⟨v2,q2,b2⟩:=f2.toI64 Tryz.underlying3
 refine ⟨⟨v0,v1,v2⟩,?_,⟨b0,⟨b1,n1⟩,b2⟩⟩
 have hc:([c0,c1,c2]:List AV)=[c0] ++ [c1] ++ [c2]:=rfl
 rw [hc]
 rw [q0,q1,q2]
 rw [e1]
 rfl
theorem Zfy {cs:List AV}(h:Of Tryz.prog 39 cs):∃ x,cs=Zz x∧ZQ x:=by
 obtain ⟨hl,hf⟩:=h.toStruct Tryz.underlying39
 rw [show Tryz.prog.cellsOf 39=13 from by kernel_rfl] at hl
 obtain ⟨c0,c1,c2,c3,r0,rfl,hl0⟩:=Gu hl
 obtain ⟨c4,c5,c6,c7,r4,rfl,hl4⟩:=Gu hl0
 obtain ⟨c8,c9,c10,c11,r8,rfl,hl8⟩:=Gu hl4
 obtain ⟨c12,r12,rfl,hl12⟩:=ZnV hl8
 obtain rfl:=List.eq_nil_of_length_eq_zero hl12
 have f0:Of Tryz.prog 9 [c0]:=QZ (hf 0 _ rfl) (n := 1) (by kernel_rfl) rfl
 obtain ⟨v0,q0,b0⟩:=f0.toStr Tryz.underlying9
 have f1:Of Tryz.prog 22 [c1]:=QZ (hf 1 _ rfl) (n := 1) (by kernel_rfl) rfl
 obtain ⟨w1,q1,b1,m1⟩:=f1.toSlice Tryz.underlying22
 rw [Zdx] at q1
 rw [ZgA] at b1
 obtain ⟨v1,e1,n1⟩:=YT (row := Xh) (fun r hr hq=>Zhh hq) m1
 replace b1:v1.length * 32≤140737488351232:=by rw [e1,List.length_map] at b1; exact b1
 have f2:Of Tryz.prog 31 [c2]:=QZ (hf 2 _ rfl) (n := 1) (by kernel_rfl) rfl
 obtain ⟨w2,q2,b2,m2⟩:=f2.toSlice Tryz.underlying31
 rw [Zjj] at q2
 rw [ZlN] at b2
 obtain ⟨v2,e2,n2⟩:=YT (row := QN) (fun r hr hq=>Fq hq) m2
 replace b2:v2.length * 232≤140737488351232:=by rw [e2,List.length_map] at b2; exact b2
 have f3:Of Tryz.prog 32 [c3]:=QZ (hf 3 _ rfl) (n := 1) (by kernel_rfl) rfl
 obtain ⟨w3,q3,b3,m3⟩:=f3.toSlice Tryz.underlying32
 rw [Zjk] at q3
 rw [ZlO] at b3
 obtain ⟨v3,e3,n3⟩:=YT (row := U0) (fun r hr hq=>ZdQ hq) m3
 replace b3:v3.length * 32≤140737488351232:=by rw [e3,List.length_map] at b3; exact b3
 have f4:Of Tryz.prog 33 [c4]:=QZ (hf 4 _ rfl) (n := 1) (by kernel_rfl) rfl
 obtain ⟨w4,q4,b4,m4⟩:=f4.toSlice Tryz.underlying33
 rw [Zjl] at q4
 rw [ZlP] at b4
 obtain ⟨v4,e4,n4⟩:=YT (row := Gy) (fun r hr hq=>Zfw hq) m4
 replace b4:v4.length * 32≤140737488351232:=by rw [e4,List.length_map] at b4; exact b4
 have f5:Of Tryz.prog 34 [c5]:=QZ (hf 5 _ rfl) (n := 1) (by kernel_rfl) rfl
 obtain ⟨w5,q5,b5,m5⟩:=f5.toSlice Tryz.underlying34
 rw [BF] at q5
 rw [EX] at b5
 obtain ⟨v5,e5,n5⟩:=YT (row := (fun x=>[.str x])) (fun r hr hq=>Zky hq) m5
 replace b5:v5.length * 16≤140737488351232:=by rw [e5,List.length_map] at b5; exact b5
 have f6:Of Tryz.prog 34 [c6]:=QZ (hf 6 _ rfl) (n := 1) (by kernel_rfl) rfl
 obtain ⟨w6,q6,b6,m6⟩:=f6.toSlice Tryz.underlying34
 rw [BF] at q6
 rw [EX] at b6
 obtain ⟨v6,e6,n6⟩:=YT (row := (fun x=>[.str x])) (fun r hr hq=>Zky hq) m6
 replace b6:v6.length * 16≤140737488351232:=by rw [e6,List.length_map] at b6; exact b6
 have f7:Of Tryz.prog 34 [c7]:=QZ (hf 7 _ rfl) (n := 1) (by kernel_rfl) rfl
 obtain ⟨w7,q7,b7,m7⟩:=f7.toSlice Tryz.underlying34
 rw [BF] at q7
 rw [EX] at b7
 obtain ⟨v7,e7,n7⟩:=YT (row := (fun x=>[.str x])) (fun r hr hq=>Zky hq) m7
 replace b7:v7.length * 16≤140737488351232:=by rw [e7,List.length_map] at b7; exact b7
 have f8:Of Tryz.prog 34 [c8]:=QZ (hf 8 _ rfl) (n := 1) (by kernel_rfl) rfl
 obtain ⟨w8,q8,b8,m8⟩:=f8.toSlice Tryz.underlying34
 rw [BF] at q8
 rw [EX] at b8
 obtain ⟨v8,e8,n8⟩:=YT (row := (fun x=>[.str x])) (fun r hr hq=>Zky hq) m8
 replace b8:v8.length * 16≤140737488351232:=by rw [e8,List.length_map] at b8; exact b8
 have f9:Of Tryz.prog 34 [c9]:=QZ (hf 9 _ rfl) (n := 1) (by kernel_rfl) rfl
 obtain ⟨w9,q9,b9,m9⟩:=f9.toSlice Tryz.underlying34
 rw [BF] at q9
 rw [EX] at b9
 obtain ⟨v9,e9,n9⟩:=YT (row := (fun x=>[.str x])) (fun r hr hq=>Zky hq) m9
 replace b9:v9.length * 16≤140737488351232:=by rw [e9,List.length_map] at b9; exact b9
 have f10:Of Tryz.prog 35 [c10]:=QZ (hf 10 _ rfl) (n := 1) (by kernel_rfl) rfl
 obtain ⟨w10,q10,b10,m10⟩:=f10.toSlice Tryz.underlying35
 rw [Zjm] at q10
 rw [ZlQ] at b10
 obtain ⟨v10,e10,n10⟩:=YT (row := Tv) (fun r hr hq=>Zih hq) m10
 replace b10:v10.length * 88≤140737488351232:=by rw [e10,List.length_map] at b10; exact b10
 have f11:Of Tryz.prog 36 [c11]:=QZ (hf 11 _ rfl) (n := 1) (by kernel_rfl) rfl
 obtain ⟨w11,q11,b11,m11⟩:=f11.toSlice Tryz.underlying36
 rw [Zjn] at q11
 rw [ZlR] at b11
 obtain ⟨v11,e11,n11⟩:=YT (row := Zbk) (fun r hr hq=>ZmH hq) m11
 replace b11:v11.length * 64≤140737488351232:=by rw [e11,List.length_map] at b11; exact b11
 have f12:Of Tryz.prog 37 [c12]:=QZ (hf 12 _ rfl) (n := 1) (by kernel_rfl) rfl
 obtain ⟨w12,q12,b12,m12⟩:=f12.toSlice Tryz.underlying37
 rw [Zji] at q12
 rw [ZlM] at b12
 obtain ⟨v12,e12,n12⟩:=YT (row := Zi1) (fun r hr hq=>ZrM hq) m12
 replace b12:v12.length * 48≤140737488351232:=by rw [e12,List.length_map] at b12; exact b12
 refine ⟨⟨v0,v1,v2,v3,v4,v5,v6,v7,v8,v9,v10,v11,v12⟩,?_,⟨b0,⟨b1,n1⟩,⟨b2,n2⟩,⟨b3,n3⟩,⟨b4,n4⟩,⟨b5,n5⟩,⟨b6,n6⟩,⟨b7,n7⟩,⟨b8,n8⟩,⟨b9,n9⟩,⟨b10,n10⟩,⟨b11,n11⟩,⟨b12,n12⟩⟩⟩
 have hc:([c0,c1,c2,c3,c4,c5,c6,c7,c8,c9,c10,c11,c12]:List AV)=[c0] ++ [c1] ++ [c2] ++ [c3] ++ [c4] ++ [c5] ++ [c6] ++ [c7] ++ [c8] ++ [c9] ++ [c10] ++ [c11] ++ [c12]:=rfl
 rw [hc]
 rw [q0,q1,q2,q3,q4,q5,q6,q7,q8,q9,q10,q11,q12]
 rw [e1,e2,e3,e4,e5,e6,e7,e8,e9,e10,e11,e12]
 rfl
theorem Zpz {cs:List AV}(h:Of Tryz.prog 41 cs):∃ x,cs=Vk x∧ZnB x:=by
 obtain ⟨hl,hf⟩:=h.toStruct Tryz.underlying41
 rw [show Tryz.prog.cellsOf 41=3 from by kernel_rfl] at hl
 obtain ⟨c0,c1,c2,r0,rfl,hl0⟩:=Zib hl
 obtain rfl:=List.eq_nil_of_length_eq_zero hl0
 have f0:Of Tryz.prog 9 [c0]:=QZ (hf 0 _ rfl) (n := 1) (by kernel_rfl) rfl
 obtain ⟨v0,q0,b0⟩:=f0.toStr Tryz.underlying9
 have f1:Of Tryz.prog 9 [c1]:=QZ (hf 1 _ rfl) (n := 1) (by kernel_rfl) rfl
 obtain ⟨v1,q1,b1⟩:=f1.toStr Tryz.underlying9
 have f2:Of Tryz.prog 3 [c2]:=QZ (hf 2 _ rfl) (n := 1) (by kernel_rfl) rfl
 obtain ⟨v2,q2,b2⟩:=f2.toI64 Tryz.underlying3
 refine ⟨⟨v0,v1,v2⟩,?_,⟨b0,b1,b2⟩⟩
 have hc:([c0,c1,c2]:List AV)=[c0] ++ [c1] ++ [c2]:=rfl
 rw [hc]
 rw [q0,q1,q2]
 rfl
theorem ZmG {cs:List AV}(h:Of Tryz.prog 26 cs):∃ x,cs=Yf x∧Xc x:=by
 obtain ⟨hl,hf⟩:=h.toStruct Tryz.underlying26
 rw [show Tryz.prog.cellsOf 26=4 from by kernel_rfl] at hl
 obtain ⟨c0,c1,c2,c3,r0,rfl,hl0⟩:=Gu hl
 obtain rfl:=List.eq_nil_of_length_eq_zero hl0
 have f0:Of Tryz.prog 9 [c0]:=QZ (hf 0 _ rfl) (n := 1) (by kernel_rfl) rfl
 obtain ⟨v0,q0,b0⟩:=f0.toStr Tryz.underlying9
 have f1:Of Tryz.prog 22 [c1]:=QZ (hf 1 _ rfl) (n := 1) (by kernel_rfl) rfl
 obtain ⟨w1,q1,b1,m1⟩:=f1.toSlice Tryz.underlying22
 rw [Zdx] at q1
 rw [ZgA] at b1
 obtain ⟨v1,e1,n1⟩:=YT (row := Xh) (fun r hr hq=>Zhh hq) m1
 replace b1:v1.length * 32≤140737488351232:=by rw [e1,List.length_map] at b1; exact b1
 have f2:Of Tryz.prog 23 [c2]:=QZ (hf 2 _ rfl) (n := 1) (by kernel_rfl) rfl
 obtain ⟨w2,q2,b2,m2⟩:=f2.toSlice Tryz.underlying23
 rw [Zjf] at q2
 rw [ZlJ] at b2
 obtain ⟨v2,e2,n2⟩:=YT (row := Zz) (fun r hr hq=>Zfy hq) m2
 replace b2:v2.length * 304≤140737488351232:=by rw [e2,List.length_map] at b2; exact b2
 have f3:Of Tryz.prog 24 [c3]:=QZ (hf 3 _ rfl) (n := 1) (by kernel_rfl) rfl
 obtain ⟨w3,q3,b3,m3⟩:=f3.toSlice Tryz.underlying24
 rw [Zjg] at q3
 rw [ZlK] at b3
 obtain ⟨v3,e3,n3⟩:=YT (row := Vk) (fun r hr hq=>Zpz hq) m3
 replace b3:v3.length * 40≤140737488351232:=by rw [e3,List.length_map] at b3; exact b3
 refine ⟨⟨v0,v1,v2,v3⟩,?_,⟨b0,⟨b1,n1⟩,⟨b2,n2⟩,⟨b3,n3⟩⟩⟩
 have hc:([c0,c1,c2,c3]:List AV)=[c0] ++ [c1] ++ [c2] ++ [c3]:=rfl
 rw [hc]
 rw [q0,q1,q2,q3]
 rw [e1,e2,e3]
 rfl
end Go.Proofs.YthkdlifcknpadaaGreat
end
