import Derived.Deep.Slices
import Derived.ChangeArms
import Derived.DataReads
import Derived.WideKeyArgs
import Derived.SizedLaws
import Derived.Test.YtbcfddaocfpckaaGreatDoorProg
import Derived.ProofKit
import Derived.Test.YtbcfddaocfpckaaGreatDoorHMo4
set_option linter.all false
open Bool renaming and_eq_true→fG
open List renaming range→ah,all_eq_true→aQ,mem_iff_getElem?→bP,length_append→aZ,map_congr_left→iP,getD→jU,getElem?_append_left→bK,getElem?_append_right→bM,getElem?_eq_getElem→bG,nil_append→bn,getD_eq_getElem?_getD→au,mem_cons_of_mem→ai,length_map→dF,length_range→bD,mem_cons_self→aj,getElem?_eq_some_iff→ag,getElem?_map→aP,getElem?_range→bF,getElem?_eq_none→aX,sizeOf_lt_of_mem→jR,eq_nil_of_length_eq_zero→bg,append_assoc→bJ,cons_append→gB
open Nat renaming le_refl→dI
section
namespace Go.Proofs.YtbcfddaocfpckaaGreatDoor.Abs
open Go Go.RowKit Go.ChangeShapes Go.WideShapes Go.Deep
def Zjp (P:Program):List Field→Nat→Nat→Bool
 | [],o,n=>o==n
 |f::r,o,n=>(f.offset==o)&&Zjp P r (o+P.cellsOf f.type) n
def ZkE {H:Type}(P:Program):Nat→TypeId→List AV→DataW H→Prop
 |0,_,_,_=>False
 |n+1,t,az,d=>match P.underlying t with
  |some .bool=>∃b,az=[.bool b]∧d=.lit (.bool b)
  |some (.int k)=>∃x,az=[.int k x]∧d=.lit (.int k x)∧(Lit.int k x).wf=true
  |some .string=>∃s,az=[.str s]∧d=.lit (.string s)∧s.length≤140737488351232
  |some (.slice e)=>∃rows,az=[.lst (P.cellsOf e) rows]∧rows.length≤140737488351232∧((rows=[]∧d=.nil)∨∃D ds spare,d=.slice ds spare∧ds=(ah rows.length).map D∧∀(i:Nat) (r:List AV),rows[i]? = some r→ZkE P n e r (D i))
  |some (.struct fs)=>az.length=P.cellsOf t∧∃ds,d=.agg ds∧ds.length=fs.size∧∀(i:Nat) (f:Field),fs.toList[i]? = some f→∃di,ds[i]? = some di∧ZkE P n f.type ((az.drop f.offset).take (P.cellsOf f.type)) di
  |_=>False
structure Shp {H:Type}(P:Program)(n:Nat)(t:TypeId)(az:List AV)(d:DataW H):Prop where
 ok:ZkE P n t az d
theorem ZgB {n:Nat}(h:n≤reachBytes):n≤140737488351232:=h
theorem Shp.bool {H:Type}{P:Program}{n:Nat}{t:TypeId}{az:List AV}{d:DataW H}(h:Shp P (n+1) t az d)(hu:P.underlying t=some .bool):∃b,az=[.bool b]∧d=.lit (.bool b):=by
 have h:=h.ok;rw [ZkE,hu] at h;exact h
theorem Shp.int {H:Type}{P:Program}{n:Nat}{t:TypeId}{k:IntKind}{az:List AV}{d:DataW H}(h:Shp P (n+1) t az d)(hu:P.underlying t=some (.int k)):∃x,az=[.int k x]∧d=.lit (.int k x)∧k.min≤x∧x≤k.max:=by
 have h:=h.ok
 rw [ZkE,hu] at h
 obtain ⟨x,h1,h2,h3⟩:=h
 simp only [Lit.wf,fG,decide_eq_true_eq] at h3
 exact ⟨x,h1,h2,h3⟩
theorem Shp.i64 {H:Type}{P:Program}{n:Nat}{t:TypeId}{az:List AV}{d:DataW H}(h:Shp P (n+1) t az d)(hu:P.underlying t=some (.int .i64)):∃x,az=[.int .i64 x]∧d=.lit (.int .i64 x)∧-9223372036854775808≤x∧x≤9223372036854775807:=by
 obtain ⟨x,h1,h2,h3⟩:=h.int hu
 exact ⟨x,h1,h2,by simpa [IntKind.min,IntKind.max,IntKind.signed,IntKind.bits] using h3⟩
theorem Shp.str {H:Type}{P:Program}{n:Nat}{t:TypeId}{az:List AV}{d:DataW H}(h:Shp P (n+1) t az d)(hu:P.underlying t=some .string):∃s,az=[.str s]∧d=.lit (.string s)∧s.length≤140737488351232:=by
 have h:=h.ok;rw [ZkE,hu] at h;exact h
theorem Shp.slice {H:Type}{P:Program}{n:Nat}{t e:TypeId}{az:List AV}{d:DataW H}(h:Shp P (n+1) t az d)(hu:P.underlying t=some (.slice e)):∃rows,az=[.lst (P.cellsOf e) rows]∧rows.length≤140737488351232∧((rows=[]∧d=.nil)∨∃D ds spare,d=.slice ds spare∧ds=(ah rows.length).map D∧∀(i:Nat) (r:List AV),rows[i]? = some r→Shp P n e r (D i)):=by
 have h:=h.ok
 rw [ZkE,hu] at h
 obtain ⟨rows,h1,h2,h3⟩:=h
 refine ⟨rows,h1,h2,h3.imp id ?_⟩
 rintro ⟨D,ds,spare,e1,e2,e3⟩
 exact ⟨D,ds,spare,e1,e2,fun i r hr=>⟨e3 i r hr⟩⟩
theorem Shp.struct {H:Type}{P:Program}{n:Nat}{t:TypeId}{fs:Array Field}{az:List AV}{d:DataW H}(h:Shp P (n+1) t az d)(hu:P.underlying t=some (.struct fs)):az.length=P.cellsOf t∧∃ds,d=.agg ds∧ds.length=fs.size∧∀(i:Nat) (f:Field),fs.toList[i]? = some f→∃di,ds[i]? = some di∧Shp P n f.type ((az.drop f.offset).take (P.cellsOf f.type)) di:=by
 have h:=h.ok
 rw [ZkE,hu] at h
 obtain ⟨h1,ds,h2,h3,h4⟩:=h
 exact ⟨h1,ds,h2,h3,fun i f hf=>let ⟨di,e1,e2⟩:=h4 i f hf;⟨di,e1,⟨e2⟩⟩⟩
def LZ (Γ:Ghost)(w:World)(a:AV)(v:Value):Prop:=Rep Γ w a v∧a.one=true∧a.noId1=true∧∀k r,a≠.own k r
variable {H:Type}{enc:TypeId×Value→H}{P:Program}{w:World}{base:Nat}{sp:Nat→Bool}{held:Bool}{Γ:Ghost}
theorem Zj1 {H:Type}{P:Program}{e:TypeId}{d:DataW H}{y:Nat}:∀{ds:List (DataW H)},d∈ds→y∈d.weights P e→y∈DataW.weightsAll P e ds
 | [],h,_=>by simp at h
 |z::ds,h,hy=>by
  rw [DataW.weightsAll,List.mem_append]
  rcases List.mem_cons.1 h with rfl|h
  ·exact .inl hy
  ·exact .inr (Zj1 h hy)
theorem sized_arg {H:Type}{P:Program}{ts:List TypeId}{ds:List (DataW H)}(h:(DataW.weightsEach P ts ds).all (·≤reachBytes)=true){j:Nat}{t:TypeId}{d:DataW H}(ht:ts[j]? = some t)(hd:ds[j]? = some d):∀y∈d.weights P t,y≤reachBytes:=fun y hy=>by
 have:=aQ.1 h _ (DataW.weights_mem_each ht hd y hy)
 simpa using this
theorem arg_stays {t:TypeId}{v:Value}{d:DataW H}{ps:List MemPlace}{W W':World}(hl:laidOutB P=true)(hr:P.readableRec t=true)(hrow:t<P.types.size)(h:DataW.Trod enc P W 0 (fun _=>true) true t v d ps)(hb:Below W.heap.size W W')(hlt:∀p∈ps,p.block<W.heap.size) :
  DataW.Trod enc P W' 0 (fun b=>decide (b<W.heap.size)) true t v d ps :=
 WideElems.Trod_stays hl hr hrow h (fun p hp=>hb.same (hlt p hp)) (fun p hp=>by simpa using hlt p hp)
end Go.Proofs.YtbcfddaocfpckaaGreatDoor.Abs
end
section
namespace Go.Proofs.YtbcfddaocfpckaaGreatDoor.Abs
open Go Go.RowKit Go.ChangeShapes Go.WideShapes Go.Deep
def Zkb (P:Program)(S:List TypeId):Bool :=
 S.all fun t=>match P.underlying t with
  |some .bool=>true
  |some (.int _)=>true
  |some .string=>true
  |some (.slice e)=>(decide (0<P.cellsOf e)&&decide (0<P.bytesOf e))&&S.contains e
  |some (.struct fs)=>Zjp P fs.toList 0 (P.cellsOf t)&&fs.toList.all fun f=>S.contains f.type
  |_=>false
inductive Og {H:Type}(P:Program):TypeId→List AV→DataW H→Prop
 |bool (t:TypeId) (b:Bool) (hu:P.underlying t=some .bool):Og P t [.bool b] (.lit (.bool b))
 |int (t:TypeId) (k:IntKind) (x:Int) (hu:P.underlying t=some (.int k)) (hw:(Lit.int k x).wf=true):Og P t [.int k x] (.lit (.int k x))
 |str (t:TypeId) (s:List UInt8) (hu:P.underlying t=some .string) (hl:s.length≤140737488351232):Og P t [.str s] (.lit (.string s))
 |nil (t e:TypeId) (hu:P.underlying t=some (.slice e)):Og P t [.lst (P.cellsOf e) []] .nil
 |slice (t e:TypeId) (rows:List (List AV)) (D:Nat→DataW H) (spare:List (DataW H)) (hu:P.underlying t=some (.slice e)) (hl:rows.length*P.bytesOf e≤140737488351232) (h:∀(i:Nat) (r:List AV),rows[i]? = some r→Og P e r (D i)) :
   Og P t [.lst (P.cellsOf e) rows] (.slice ((ah rows.length).map D) spare)
 |struct (t:TypeId) (fs:Array Field) (cs:List AV) (D:Nat→DataW H) (hu:P.underlying t=some (.struct fs)) (hl:cs.length=P.cellsOf t)
   (h:∀(i:Nat) (f:Field),fs.toList[i]? = some f→Og P f.type ((cs.drop f.offset).take (P.cellsOf f.type)) (D i)):Og P t cs (.agg ((ah fs.size).map D))
section
variable {H:Type}{P:Program}{t:TypeId}{cs:List AV}{d:DataW H}
theorem Og.toBool (h:Og P t cs d)(hu:P.underlying t=some .bool):∃b,cs=[.bool b]∧d=.lit (.bool b):=by
 cases h<;>rename_i h2<;>first|exact ⟨_,rfl,rfl⟩|(simp_all;done)
theorem Og.toInt (h:Og P t cs d){k:IntKind}(hu:P.underlying t=some (.int k)):∃x,cs=[.int k x]∧d=.lit (.int k x)∧k.min≤x∧x≤k.max:=by
 cases h with
 |int _ k' x h1 hw =>
  rw [hu] at h1;cases h1
  simp only [Lit.wf,fG,decide_eq_true_eq] at hw
  exact ⟨x,rfl,rfl,hw⟩
 |_=>simp_all
theorem Og.toI64 (h:Og P t cs d)(hu:P.underlying t=some (.int .i64)):∃x,cs=[.int .i64 x]∧d=.lit (.int .i64 x)∧-9223372036854775808≤x∧x≤9223372036854775807:=by
 obtain ⟨x,h1,h2,h3⟩:=h.toInt hu
 exact ⟨x,h1,h2,by simpa [IntKind.min,IntKind.max,IntKind.signed,IntKind.bits] using h3⟩
theorem Og.toStr (h:Og P t cs d)(hu:P.underlying t=some .string):∃s,cs=[.str s]∧d=.lit (.string s)∧s.length≤140737488351232:=by
 cases h with
 |str _ s h1 hl=>exact ⟨s,rfl,rfl,hl⟩
 |_=>simp_all
theorem Og.toSlice (h:Og P t cs d){e:TypeId}(hu:P.underlying t=some (.slice e)):∃rows,cs=[.lst (P.cellsOf e) rows]∧rows.length*P.bytesOf e≤140737488351232∧∃D:Nat→DataW H,(∀(i:Nat) (r:List AV),rows[i]? = some r→Og P e r (D i))∧((rows=[]∧d=.nil)∨∃spare,d=.slice ((ah rows.length).map D) spare):=by
 cases h with
 |nil _ e' h1=>rw [hu] at h1;cases h1;exact ⟨[],rfl,by simp,fun _=>.nil,fun i r hr=>by simp at hr,.inl ⟨rfl,rfl⟩⟩
 |slice _ e' rows D spare h1 hl h=>rw [hu] at h1;cases h1;exact ⟨rows,rfl,hl,D,h,.inr ⟨spare,rfl⟩⟩
 |_=>simp_all
theorem Og.toStruct (h:Og P t cs d){fs:Array Field}(hu:P.underlying t=some (.struct fs)):cs.length=P.cellsOf t∧∃D:Nat→DataW H,d=.agg ((ah fs.size).map D)∧∀(i:Nat) (f:Field),fs.toList[i]? = some f→Og P f.type ((cs.drop f.offset).take (P.cellsOf f.type)) (D i):=by
 cases h with
 |struct _ fs' _ D h1 hl h=>rw [hu] at h1;cases h1;exact ⟨hl,D,rfl,h⟩
 |_=>simp_all
end
def Of (P:Program)(t:TypeId)(cs:List AV):Prop:=∃(H:Type) (d:DataW H),Og P t cs d
theorem Og.of {H:Type}{P:Program}{t:TypeId}{cs:List AV}{d:DataW H}(h:Og P t cs d):Of P t cs:=⟨H,d,h⟩
theorem Of.toBool {P:Program}{t:TypeId}{cs:List AV}(h:Of P t cs)(hu:P.underlying t=some .bool):∃b,cs=[.bool b]:=by
 obtain ⟨H,d,h⟩:=h;obtain ⟨b,h1,_⟩:=h.toBool hu;exact ⟨b,h1⟩
theorem Of.toInt {P:Program}{t:TypeId}{cs:List AV}(h:Of P t cs){k:IntKind}(hu:P.underlying t=some (.int k)):∃x,cs=[.int k x]∧k.min≤x∧x≤k.max:=by
 obtain ⟨H,d,h⟩:=h;obtain ⟨x,h1,_,h2⟩:=h.toInt hu;exact ⟨x,h1,h2⟩
theorem Of.toI64 {P:Program}{t:TypeId}{cs:List AV}(h:Of P t cs)(hu:P.underlying t=some (.int .i64)):∃x,cs=[.int .i64 x]∧-9223372036854775808≤x∧x≤9223372036854775807:=by
 obtain ⟨H,d,h⟩:=h;obtain ⟨x,h1,_,h2⟩:=h.toI64 hu;exact ⟨x,h1,h2⟩
theorem Of.toStr {P:Program}{t:TypeId}{cs:List AV}(h:Of P t cs)(hu:P.underlying t=some .string):∃s,cs=[.str s]∧s.length≤140737488351232:=by
 obtain ⟨H,d,h⟩:=h;obtain ⟨x,h1,_,h2⟩:=h.toStr hu;exact ⟨x,h1,h2⟩
theorem Of.toSlice {P:Program}{t:TypeId}{cs:List AV}(h:Of P t cs){e:TypeId}(hu:P.underlying t=some (.slice e)):∃rows,cs=[.lst (P.cellsOf e) rows]∧rows.length*P.bytesOf e≤140737488351232∧∀r∈rows,Of P e r:=by
 obtain ⟨H,d,h⟩:=h
 obtain ⟨rows,h1,h2,D,h3,_⟩:=h.toSlice hu
 exact ⟨rows,h1,h2,fun r hr=>by obtain ⟨i,hi⟩:=bP.1 hr;exact (h3 i r hi).of⟩
theorem Of.toStruct {P:Program}{t:TypeId}{cs:List AV}(h:Of P t cs){fs:Array Field}(hu:P.underlying t=some (.struct fs)):cs.length=P.cellsOf t∧∀(i:Nat) (f:Field),fs.toList[i]? = some f→Of P f.type ((cs.drop f.offset).take (P.cellsOf f.type)):=by
 obtain ⟨H,d,h⟩:=h
 obtain ⟨h1,D,_,h2⟩:=h.toStruct hu
 exact ⟨h1,fun i f hf=>(h2 i f hf).of⟩
variable {H:Type}{enc:TypeId×Value→H}{P:Program}{w:World}{base:Nat}{sp:Nat→Bool}{held:Bool}{Γ:Ghost}
theorem ZeR {t e:TypeId}{fuel:Nat}{cs:List Value}{x:DataW H×List MemPlace}(ht:P.underlying t=some (.slice e))(h:DataW.trod enc P w base sp held (fuel+1) t cs=some x) :
  (cs=[.slice none 0 0]∧x=(.nil,[])) ∨
  ∃(a:Addr) (len cap m n:Nat) (D:Nat→DataW H) (Pl:Nat→List MemPlace),n=fuel∧cs=[.slice (some a) len cap]∧base≤a.block∧len≤cap∧cap≤maxLen∧m=(if sp a.block then cap else len) ∧
   x=(.slice ((ah len).map D) ((ah (m - len)).map fun j=>D (len+j)),MemPlace.row a (m*P.cellsOf e)++(ah m).flatMap Pl) ∧
   ∀i,i<m→∃cs',w.cells? base (a.add (i*P.cellsOf e)) (P.cellsOf e)=some cs'∧DataW.trod enc P w base sp held n e cs'=some (D i,Pl i):=by
 rcases DataW.trod_slice ht h with h0|⟨a,len,cap,elems,rest,n,hn,rfl,rfl,hb,hl,hm,hlen,hel,hsp,hns⟩
 ·exact Or.inl h0
 right
 have hrl:rest.length=(if sp a.block then cap else len) - len:=by
  cases hs:sp a.block with
  |true=>simpa [hs] using (hsp hs).1
  |false=>simp [hns hs]
 have hle:len≤(if sp a.block then cap else len):=by split<;>omega
 have hall:(elems++rest).length=(if sp a.block then cap else len):=by rw [aZ,hlen,hrl];omega
 refine ⟨a,len,cap,_,n,fun i=>((elems++rest).getD i (.nil,[])).1,fun i=>((elems++rest).getD i (.nil,[])).2,by omega,rfl,hb,hl,hm,rfl,?_,?_⟩
 ·refine Prod.ext ?_ ?_
  ·show DataW.slice (elems.map (·.1)) (rest.map (·.1))=_
   congr 1
   ·rw [map_by_index elems (.nil,[]) (·.1),hlen]
    refine iP fun i hi=>?_
    have hi':i<elems.length:=by rw [hlen];simpa using hi
    simp [jU,bK hi']
   ·rw [map_by_index rest (.nil,[]) (·.1),hrl]
    refine iP fun j _=>?_
    simp [jU,bM (show elems.length≤len+j by omega),hlen]
  ·show MemPlace.row a ((elems.length+rest.length)*P.cellsOf e)++(elems++rest).flatMap (·.2)=_
   rw [flatMap_by_index (elems++rest) (.nil,[]) (·.2),hall,← aZ,hall]
 ·intro i hi
  have key:(w.cells? base (a.add (i*P.cellsOf e)) (P.cellsOf e)).bind (DataW.trod enc P w base sp held n e)=(elems++rest)[i]?:=by
   by_cases hil:i<len
   ·rw [hel i hil,bK (by omega)]
   ·have hs:sp a.block=true:=by
     cases hs:sp a.block with
     |true=>rfl
     |false=>simp [hs] at hi;omega
    have:=(hsp hs).2 (i - len) (by simp [hs] at hi;omega)
    rw [show len+(i - len)=i by omega] at this
    rw [this,bM (by omega),hlen]
  rw [bG (by omega)] at key
  obtain ⟨cs',h1,h2⟩:=Option.bind_eq_some_iff.1 key
  refine ⟨cs',h1,?_⟩
  rw [h2]
  simp [jU,bG (show i<(elems++rest).length by omega)]
theorem Ar (S:List TypeId)(fuel:Nat)(cs:List Value)
  (ih:∀(t:TypeId) (cs:List Value) (x:DataW H×List MemPlace),S.contains t=true→DataW.trod enc P w base sp held fuel t cs=some x→(∀y∈x.1.weights P t,y≤reachBytes)→∃az:List AV,Og P t az x.1∧az.length=cs.length∧∀j a,az[j]? = some a→LZ Γ w a (cs.getD j Go.undef)) :
  ∀(fs:List Field) (xs:List (DataW H×List MemPlace)) (o m:Nat),Zjp P fs o m=true→m=cs.length→(fs.all fun f=>S.contains f.type)=true→(∀(i:Nat) (f:Field),fs[i]? = some f→∃x,xs[i]? = some x∧DataW.trod enc P w base sp held fuel f.type ((cs.drop f.offset).take (P.cellsOf f.type))=some x∧∀y∈x.1.weights P f.type,y≤reachBytes) →
   o≤m∧∃az:List AV,az.length=m - o∧(∀(i:Nat) (f:Field),fs[i]? = some f→o≤f.offset∧∃x,xs[i]? = some x∧Og P f.type ((az.drop (f.offset - o)).take (P.cellsOf f.type)) x.1)∧∀j a,az[j]? = some a→LZ Γ w a (cs.getD (o+j) Go.undef)
 | [],xs,o,m,ht,hm,_,_=>by
  have:o=m:=by simpa [Zjp] using ht
  subst this
  exact ⟨dI _,[],by simp,fun i f hf=>by simp at hf,fun j a h=>by simp at h⟩
 |f::r,xs,o,m,ht,hm,hok,hx=>by
  simp only [Zjp,fG,beq_iff_eq] at ht
  simp only [List.all_cons,fG] at hok
  obtain ⟨x,hx0,hxf,hxw⟩:=hx 0 f rfl
  obtain ⟨xs,rfl⟩:∃xs',xs=x::xs':=by
   cases xs with
   |nil=>simp at hx0
   |cons y ys=>simp at hx0;exact ⟨ys,by rw [hx0]⟩
  obtain ⟨hle,az,hl,hs,hr⟩:=Ar S fuel cs ih r xs _ m ht.2 hm hok.2 (fun i g hg=>hx (i+1) g hg)
  obtain ⟨a1,s1,l1,r1⟩:=ih _ _ _ hok.1 hxf hxw
  have hlen:((cs.drop f.offset).take (P.cellsOf f.type)).length=P.cellsOf f.type:=by
   rw [List.length_take,List.length_drop];omega
  rw [hlen] at l1
  refine ⟨by omega,a1++az,by rw [aZ];omega,fun i g hg=>?_,fun j a hj=>?_⟩
  ·cases i with
   |zero =>
    simp only [List.getElem?_cons_zero,Option.some.injEq] at hg
    subst hg
    refine ⟨by omega,x,rfl,?_⟩
    rw [ht.1,Nat.sub_self,List.drop_zero,List.take_append_of_le_length (by omega),List.take_of_length_le (by omega)]
    exact s1
   |succ i =>
    simp only [List.getElem?_cons_succ] at hg
    obtain ⟨q1,q2⟩:=hs i g hg
    refine ⟨by omega,?_⟩
    rw [List.drop_append,List.drop_eq_nil_of_le (by omega),bn,l1]
    rw [show g.offset - o - P.cellsOf f.type=g.offset - (o+P.cellsOf f.type) by omega]
    simpa using q2
  ·by_cases hj2:j<a1.length
   ·rw [bK hj2] at hj
    have:=r1 j a hj
    have e:((cs.drop f.offset).take (P.cellsOf f.type)).getD j Go.undef=cs.getD (o+j) Go.undef:=by
     rw [au,au,List.getElem?_take_of_lt (by omega),List.getElem?_drop,ht.1]
    rwa [e] at this
   ·rw [bM (by omega)] at hj
    have:=hr _ a hj
    rwa [show o+P.cellsOf f.type+(j - a1.length)=o+j by omega] at this
theorem PQ (hΓ:∀b,Γ b=.imm){S:List TypeId}(hS:Zkb P S=true):∀(fuel:Nat) (t:TypeId) (cs:List Value) (x:DataW H×List MemPlace),S.contains t=true→DataW.trod enc P w base sp held fuel t cs=some x→(∀y∈x.1.weights P t,y≤reachBytes) →
  ∃az:List AV,Og P t az x.1∧az.length=cs.length∧∀j a,az[j]? = some a→LZ Γ w a (cs.getD j Go.undef)
 |0,_,_,_,_,h,_=>by cases h
 |fuel+1,t,cs,x,hc,h,hwt=>by
  have ho:=aQ.1 hS t (by simpa using hc)
  cases hu:P.underlying t with
  |none=>simp [hu] at ho
  |some d =>
  have one:∀(c:AV) (v:Value),LZ Γ w c v→∀j a,[c][j]? = some a→LZ Γ w a ([v].getD j Go.undef):=fun c v hc j a hj=>by
   match j,hj with
   |0,hj=>cases hj;exact hc
   |j+1,hj=>simp at hj
  cases d<;>simp only [hu,Bool.false_eq_true] at ho
  case bool =>
   obtain ⟨b,rfl,rfl⟩:=DataW.trod_bool hu h
   exact ⟨[.bool b],.bool t b hu,rfl,one _ _ ⟨.bool b,rfl,rfl,fun k r e=>by cases e⟩⟩
  case int k =>
   obtain ⟨x,rfl,rfl,hw⟩:=DataW.trod_int hu h
   exact ⟨[.int k x],.int t k x hu hw,rfl,one _ _ ⟨.int k x,rfl,rfl,fun k r e=>by cases e⟩⟩
  case string =>
   obtain ⟨b,rfl,rfl,hb⟩:=DataW.trod_string hu h
   have e:b=⟨b.data.toList.toArray⟩:=by cases b;simp
   refine ⟨[.str b.data.toList],.str t _ hu (ZgB (hwt _ (by simp [DataW.weights]))),rfl,one _ _ ⟨?_,rfl,rfl,fun k r e=>by cases e⟩⟩
   have:Rep Γ w (.str b.data.toList) (.string ⟨b.data.toList.toArray⟩):=.str _
   rwa [← e] at this
  case slice e =>
   simp only [fG,decide_eq_true_eq] at ho
   rcases ZeR hu h with ⟨rfl,rfl⟩|⟨A,len,cap,m,n',D,Pl,hn',rfl,hb,hl,hm,hmm,rfl,hi⟩
   ·exact ⟨[.lst (P.cellsOf e) []],.nil t e hu,rfl,one _ _ ⟨.lstNil _,rfl,rfl,fun k r e=>by cases e⟩⟩
   ·have hlm:len≤m:=by rw [hmm];split<;>omega
    have hwe:∀i,i<len→∀y∈(D i).weights P e,y≤reachBytes:=fun i hi y hy=>by
     refine hwt y ?_
     simp only [DataW.weights,hu]
     exact ai _ (List.mem_append_left _ (Zj1 (List.mem_map.2 ⟨i,by simpa using hi,rfl⟩) hy))
    have hlr:len*P.bytesOf e≤140737488351232:=by
     refine ZgB (Nat.le_trans ?_ (hwt ((((ah len).map D).length+((ah (m - len)).map fun j=>D (len+j)).length)*P.bytesOf e) ?_))
     ·simp only [dF,bD]
      exact Nat.mul_le_mul_right _ (Nat.le_add_right _ _)
     ·simp only [DataW.weights,hu]
      exact aj ..
    have hrow:∀i,∃r:List AV,i<len→Og P e r (D i)∧r.length=P.cellsOf e∧∀j a,r[j]? = some a→w.cell? ((A.add (i*P.cellsOf e)).add j)=some ((w.cell? ((A.add (i*P.cellsOf e)).add j)).getD Go.undef)∧LZ Γ w a ((w.cell? ((A.add (i*P.cellsOf e)).add j)).getD Go.undef):=fun i=>by
     by_cases hil:i<len
     ·obtain ⟨cs',hc,ht⟩:=hi i (by omega)
      obtain ⟨_,hlen,hcell⟩:=World.cells?_some hc
      obtain ⟨r,s1,l1,r1⟩:=PQ hΓ hS n' e cs' _ ho.2 ht (hwe i hil)
      refine ⟨r,fun _=>⟨s1,by omega,fun j a hj=>?_⟩⟩
      have hjl:j<r.length:=(ag.1 hj).1
      have hc2:=hcell j (by omega)
      have hr:=r1 j a hj
      rw [bG (by omega)] at hc2
      rw [au,bG (by omega)] at hr
      rw [hc2]
      exact ⟨rfl,hr⟩
     ·exact ⟨[],fun h=>absurd h hil⟩
    have hf:∃f:Nat→List AV,∀i,i<len→Og P e (f i) (D i)∧(f i).length=P.cellsOf e∧∀j a,(f i)[j]? = some a→w.cell? ((A.add (i*P.cellsOf e)).add j)=some ((w.cell? ((A.add (i*P.cellsOf e)).add j)).getD Go.undef)∧LZ Γ w a ((w.cell? ((A.add (i*P.cellsOf e)).add j)).getD Go.undef) :=
     ⟨fun i=>(hrow i).choose,fun i=>(hrow i).choose_spec⟩
    obtain ⟨f,hf⟩:=hf
    have hget:∀(i:Nat) (r:List AV),((ah len).map f)[i]? = some r→i<len∧r=f i:=fun i r hr=>by
     rw [aP] at hr
     obtain ⟨i',hi',rfl⟩:=Option.map_eq_some_iff.1 hr
     have hlt:=(ag.1 hi').1
     rw [bD] at hlt
     rw [bF hlt] at hi'
     obtain rfl:=Option.some.inj hi'
     exact ⟨hlt,rfl⟩
    have hlenf:((ah len).map f).length=len:=by simp
    have hsl:=Og.slice (P := P) t e ((ah len).map f) D ((ah (m - len)).map fun j=>D (len+j)) hu (by simpa using hlr) (fun i r hr=>by obtain ⟨h1,rfl⟩:=hget i r hr;exact (hf i h1).1)
    rw [hlenf] at hsl
    refine ⟨[.lst (P.cellsOf e) ((ah len).map f)],hsl,rfl,one _ _ ⟨?_,rfl,rfl,fun k r e=>by cases e⟩⟩
    ·by_cases hex:∃(i j:Nat) (a:AV),i<len∧(f i)[j]? = some a
     ·obtain ⟨i0,j0,a0,hi0,hj0⟩:=hex
      have h0:∃v,w.cell? A=some v:=by
       have hj0l:j0<(f i0).length:=(ag.1 hj0).1
       have hpos:0<P.cellsOf e:=by have:=(hf i0 hi0).2.1;omega
       have hz:=(hf 0 (by omega)).2.1
       have:=((hf 0 (by omega)).2.2 0 ((f 0)[0]'(by omega)) (bG _)).1
       rw [Nat.zero_mul] at this
       have e1:(A.add 0).add 0=A:=by simp [Addr.add]
       rw [e1] at this
       exact ⟨_,this⟩
      have hsp:A.spot=none:=by
       obtain ⟨v,hv⟩:=h0
       unfold World.cell? at hv
       split at hv
       ·split at hv
        ·cases hv
        ·rename_i hs;simpa using hs
       ·cases hv
      obtain ⟨b,o,q⟩:=A
      simp only at hsp
      subst hsp
      have hadd:∀i j,((⟨b,o,none⟩:Addr).add (i*P.cellsOf e)).add j=⟨b,o+(i*P.cellsOf e+j),none⟩:=fun i j=>by
       rw [Go.Deep.add_add]
       unfold Addr.add
       split
       ·rename_i h0;simp [h0]
       ·rfl
      have hll:len=((ah len).map f).length:=by simp
      generalize hrows:(ah len).map f=rows at *
      subst hll
      refine .lst _ rows b o cap (fun i j=>(w.cell? ⟨b,o+(i*P.cellsOf e+j),none⟩).getD Go.undef) hl (fun r hr=>?_) (fun i j r c hr hc=>?_) (fun i j r c hr hc=>?_)
      ·obtain ⟨i,hi⟩:=bP.1 hr
       obtain ⟨h1,rfl⟩:=hget i r hi
       exact (hf i h1).2.1
      ·obtain ⟨h1,rfl⟩:=hget i r hr
       have:=(hf i h1).2.2 j c hc
       rw [hadd] at this
       exact ⟨this.1,by show FixedK _ (Γ b);rw [hΓ];trivial,this.2.2.2.1⟩
      ·obtain ⟨h1,rfl⟩:=hget i r hr
       have:=(hf i h1).2.2 j c hc
       rw [hadd] at this
       exact this.2.1
     ·have h0:len=0:=by
       rcases Nat.eq_zero_or_pos len with h0|h0
       ·exact h0
       ·refine absurd ⟨0,0,(f 0)[0]'(by have:=(hf 0 h0).2.1;have:=ho.1.1;omega),h0,bG _⟩ hex
      subst h0
      exact .lstE _ A cap
  case struct fs =>
   simp only [fG] at ho
   obtain ⟨xs,n',hn,rfl,hlen,hxl,hf⟩:=DataW.trod_struct hu h
   obtain ⟨_,az,l1,s1,r1⟩:=Ar S n' cs (fun t cs x=>PQ hΓ hS n' t cs x) fs.toList xs 0 _ ho.1 hlen.symm ho.2 fun i f hf'=>by
    have hi':fs[i]? = some f:=by simpa using hf'
    have:=hf i f hi'
    have hlt:i<xs.length:=by rw [hxl];exact (Array.getElem?_eq_some_iff.1 hi').1
    rw [bG hlt] at this
    refine ⟨_,bG hlt,this,fun y hy=>hwt y ?_⟩
    simp only [DataW.weights,hu]
    exact DataW.weights_mem_each (j := i) (t := f.type) (d := (xs[i]'hlt).1) (by simp [hi']) (by simp [bG hlt]) y hy
   have hst:=Og.struct (P := P) t fs az (fun i=>((xs.map (·.1))[i]?).getD .nil) hu (by omega) fun i f hf'=>by
    obtain ⟨_,x,hx,hsx⟩:=s1 i f hf'
    simpa [hx] using hsx
   have hds:(ah fs.size).map (fun i=>((xs.map (·.1))[i]?).getD .nil)=xs.map (·.1):=by
    refine List.ext_getElem? fun i=>?_
    rw [aP]
    by_cases hi:i<fs.size
    ·rw [bF hi,Option.map_some,aP,bG (by omega)];rfl
    ·rw [aX (by simpa using hi),aX (by simp;omega)];rfl
   rw [hds] at hst
   exact ⟨az,hst,by omega,fun j a hj=>by simpa using r1 j a hj⟩
theorem argS_struct (hΓ:∀b,Γ b=.imm){S:List TypeId}(hS:Zkb P S=true){r:Reach}{b0:Nat}{t:TypeId}{fs:Array Field}{v:Value}{d:DataW H}{ps:List MemPlace}(hc:S.contains t=true)(hu:P.underlying t=some (.struct fs))(hv:Value.okWide P w r b0 t v)
  (h:DataW.Trod enc P w base sp held t v d ps) (hw:∀y∈d.weights P t,y≤reachBytes):∃az,Rep Γ w (.agg az) v∧Og P t az d:=by
 obtain ⟨cs,rfl,hsz⟩:=okWide_struct hu hv
 obtain ⟨fuel,hf⟩:=h
 obtain ⟨az,s1,l1,r1⟩:=PQ hΓ hS fuel t _ _ hc hf hw
 have l2:az.length=cs.size:=by rw [l1];rfl
 refine ⟨az,.agg az cs l2.symm (fun j c hc=>(r1 j c hc).2.1) (fun j k r hc=>absurd rfl ((r1 j _ hc).2.2.2 k r)) (fun j c hc=>?_),s1⟩
 have:=(r1 j c hc).1
 have e:(Value.agg cs).cells.toList.getD j Go.undef=cs.getD j Go.undef:=by
  show cs.toList.getD j Go.undef=_
  simp [au,Array.getD_eq_getD_getElem?]
 rwa [e] at this
end Go.Proofs.YtbcfddaocfpckaaGreatDoor.Abs
end
section
namespace Go.Proofs.YtbcfddaocfpckaaGreatDoor
open Go Go.RowKit Abs
set_option maxRecDepth 100000
set_option maxHeartbeats 0
theorem ZkJ {α:Type _}{l:List α}{n:Nat}(h:l.length=n+1):∃a r,l=a::r∧r.length=n:=by
 cases l with
 |nil=>simp at h
 |cons a r=>exact ⟨a,r,rfl,by simpa using h⟩
theorem Q9 {P:Program}{t:TypeId}{l M:List AV}{k n:Nat}(h:Of P t ((l.drop k).take (P.cellsOf t)))(hn:P.cellsOf t=n)(hm:(l.drop k).take n=M):Of P t M:=by rw [hn,hm] at h;exact h
theorem Zhh {α:Type _}{l:List α}{n:Nat}(h:l.length=n+2):∃a b r,l=a::b::r∧r.length=n:=by
 obtain ⟨a,r,rfl,h1⟩:=ZkJ h
 obtain ⟨b,s,rfl,h2⟩:=ZkJ h1
 exact ⟨a,b,s,rfl,h2⟩
theorem Zhi {α:Type _}{l:List α}{n:Nat}(h:l.length=n+3):∃a b c r,l=a::b::c::r∧r.length=n:=by
 obtain ⟨a,b,r,rfl,h1⟩:=Zhh h
 obtain ⟨c,s,rfl,h2⟩:=ZkJ h1
 exact ⟨a,b,c,s,rfl,h2⟩
theorem Gh {α:Type _}{l:List α}{n:Nat}(h:l.length=n+4):∃a b c d r,l=a::b::c::d::r∧r.length=n:=by
 obtain ⟨a,b,r,rfl,h1⟩:=Zhh h
 obtain ⟨c,d,s,rfl,h2⟩:=Zhh h1
 exact ⟨a,b,c,d,s,rfl,h2⟩
theorem Ziz {cs:List AV}{w k:Nat}{rows:List (List AV)}{r:List AV}(h1:AV.lst w rows∈cs)(h2:r∈rows)(h3:SizeOf.sizeOf cs≤k+1):SizeOf.sizeOf r≤k:=by
 have a1:=jR h1
 have a2:=jR h2
 have a3:SizeOf.sizeOf (AV.lst w rows)=1+SizeOf.sizeOf w+SizeOf.sizeOf rows:=by simp
 omega
theorem YN {α:Type}{Q:List AV→Prop}{row:α→List AV}{ok:α→Prop}:∀{rows:List (List AV)},(∀r∈rows,Q r→∃x,r=row x∧ok x)→(∀r∈rows,Q r)→∃l:List α,rows=l.map row∧∀x∈l,ok x
 | [],_,_=>⟨[],rfl,fun x h=>by cases h⟩
 |r::rs,hq,h=>by
  obtain ⟨x,h1,h2⟩:=hq r (aj ..) (h r (aj ..))
  obtain ⟨l,h3,h4⟩:=YN (rows := rs) (fun y hy=>hq y (ai _ hy)) fun y hy=>h y (ai _ hy)
  exact ⟨x::l,by rw [h1,h3];rfl,fun y hy=>by
   rcases List.mem_cons.1 hy with rfl|hy
   ·exact h2
   ·exact h4 y hy⟩
def ZiC:List TypeId:=[40,9,36,143,141,3,37,72,64,94,90,241,92,61,58,59,65,149,147,66,152,67,68,89,87,244,32,63,57,25,22,23,4,69,156,70,160,158,248,38,100,118,201,277,270,272]
theorem Zgz:Zkb Tryz.prog ZiC=true:=by kernel_rfl
theorem Ze8:Tryz.prog.bytesOf 3=8:=by kernel_rfl
theorem ZbA:Tryz.prog.cellsOf 3=1:=by kernel_rfl
theorem Ak:Tryz.prog.bytesOf 9=16:=by kernel_rfl
theorem Dq:Tryz.prog.cellsOf 9=1:=by kernel_rfl
theorem Zgk:Tryz.prog.bytesOf 25=56:=by kernel_rfl
theorem Zdk:Tryz.prog.cellsOf 25=4:=by kernel_rfl
theorem Zb9:Tryz.prog.bytesOf 63=312:=by kernel_rfl
theorem Am:Tryz.prog.cellsOf 63=21:=by kernel_rfl
theorem ZjC:Tryz.prog.bytesOf 72=304:=by kernel_rfl
theorem Zic:Tryz.prog.cellsOf 72=13:=by kernel_rfl
theorem ZjD:Tryz.prog.bytesOf 89=88:=by kernel_rfl
theorem Zid:Tryz.prog.cellsOf 89=4:=by kernel_rfl
theorem ZjE:Tryz.prog.bytesOf 94=232:=by kernel_rfl
theorem Zie:Tryz.prog.cellsOf 94=17:=by kernel_rfl
theorem ZhU:Tryz.prog.bytesOf 100=40:=by kernel_rfl
theorem ZgT:Tryz.prog.cellsOf 100=3:=by kernel_rfl
theorem Zdf:Tryz.prog.bytesOf 143=32:=by kernel_rfl
theorem ZaX:Tryz.prog.cellsOf 143=3:=by kernel_rfl
theorem ZhV:Tryz.prog.bytesOf 149=32:=by kernel_rfl
theorem ZgU:Tryz.prog.cellsOf 149=3:=by kernel_rfl
theorem ZhW:Tryz.prog.bytesOf 152=32:=by kernel_rfl
theorem ZgV:Tryz.prog.cellsOf 152=3:=by kernel_rfl
theorem ZhX:Tryz.prog.bytesOf 156=64:=by kernel_rfl
theorem ZgW:Tryz.prog.cellsOf 156=5:=by kernel_rfl
theorem ZhY:Tryz.prog.bytesOf 160=48:=by kernel_rfl
theorem ZgX:Tryz.prog.cellsOf 160=3:=by kernel_rfl
theorem ZhZ:Tryz.prog.bytesOf 241=16:=by kernel_rfl
theorem ZgY:Tryz.prog.cellsOf 241=2:=by kernel_rfl
theorem Zdg:Tryz.prog.bytesOf 244=24:=by kernel_rfl
theorem ZaY:Tryz.prog.cellsOf 244=2:=by kernel_rfl
theorem Zia:Tryz.prog.bytesOf 248=40:=by kernel_rfl
theorem ZgZ:Tryz.prog.cellsOf 248=3:=by kernel_rfl
theorem Zl9 {cs:List AV}(h:Of Tryz.prog 3 cs):∃x:Int,cs=[.int .i64 x]∧(-9223372036854775808≤x∧x≤9223372036854775807):=h.toI64 Tryz.underlying3
theorem ZiB {cs:List AV}(h:Of Tryz.prog 9 cs):∃x:List UInt8,cs=[.str x]∧x.length≤140737488351232:=h.toStr Tryz.underlying9
theorem Zgy {cs:List AV}(h:Of Tryz.prog 143 cs):∃x,cs=Gs x∧Rh x:=by
 obtain ⟨hl,hf⟩:=h.toStruct Tryz.underlying143
 rw [show Tryz.prog.cellsOf 143=3 from by kernel_rfl] at hl
 obtain ⟨c0,c1,c2,r0,rfl,hl0⟩:=Zhi hl
 obtain rfl:=bg hl0
 have f0:Of Tryz.prog 9 [c0]:=Q9 (hf 0 _ rfl) (n := 1) (by kernel_rfl) rfl
 obtain ⟨v0,q0,b0⟩:=f0.toStr Tryz.underlying9
 have f1:Of Tryz.prog 141 [c1]:=Q9 (hf 1 _ rfl) (n := 1) (by kernel_rfl) rfl
 obtain ⟨v1,q1,b1⟩:=f1.toI64 Tryz.underlying141
 have f2:Of Tryz.prog 3 [c2]:=Q9 (hf 2 _ rfl) (n := 1) (by kernel_rfl) rfl
 obtain ⟨v2,q2,b2⟩:=f2.toI64 Tryz.underlying3
 refine ⟨⟨v0,v1,v2⟩,?_,⟨b0,b1,b2⟩⟩
 have hc:([c0,c1,c2]:List AV)=[c0]++[c1]++[c2]:=rfl
 rw [hc]
 rw [q0,q1,q2]
 rfl
theorem ZiA {cs:List AV}(h:Of Tryz.prog 241 cs):∃x,cs=Hm x∧Zgd x:=by
 obtain ⟨hl,hf⟩:=h.toStruct Tryz.underlying241
 rw [show Tryz.prog.cellsOf 241=2 from by kernel_rfl] at hl
 obtain ⟨c0,c1,r0,rfl,hl0⟩:=Zhh hl
 obtain rfl:=bg hl0
 have f0:Of Tryz.prog 3 [c0]:=Q9 (hf 0 _ rfl) (n := 1) (by kernel_rfl) rfl
 obtain ⟨v0,q0,b0⟩:=f0.toI64 Tryz.underlying3
 have f1:Of Tryz.prog 3 [c1]:=Q9 (hf 1 _ rfl) (n := 1) (by kernel_rfl) rfl
 obtain ⟨v1,q1,b1⟩:=f1.toI64 Tryz.underlying3
 refine ⟨⟨v0,v1⟩,?_,⟨b0,b1⟩⟩
 have hc:([c0,c1]:List AV)=[c0]++[c1]:=rfl
 rw [hc]
 rw [q0,q1]
 rfl
theorem ZeO {cs:List AV}(h:Of Tryz.prog 61 cs):∃x,cs=F8 x∧X0 x:=by
 obtain ⟨hl,hf⟩:=h.toStruct Tryz.underlying61
 rw [show Tryz.prog.cellsOf 61=6 from by kernel_rfl] at hl
 obtain ⟨c0,c1,c2,c3,r0,rfl,hl0⟩:=Gh hl
 obtain ⟨c4,c5,r4,rfl,hl4⟩:=Zhh hl0
 obtain rfl:=bg hl4
 have f0:Of Tryz.prog 58 [c0]:=Q9 (hf 0 _ rfl) (n := 1) (by kernel_rfl) rfl
 obtain ⟨v0,q0,b0⟩:=f0.toI64 Tryz.underlying58
 have f1:Of Tryz.prog 3 [c1]:=Q9 (hf 1 _ rfl) (n := 1) (by kernel_rfl) rfl
 obtain ⟨v1,q1,b1⟩:=f1.toI64 Tryz.underlying3
 have f2:Of Tryz.prog 3 [c2]:=Q9 (hf 2 _ rfl) (n := 1) (by kernel_rfl) rfl
 obtain ⟨v2,q2,b2⟩:=f2.toI64 Tryz.underlying3
 have f3:Of Tryz.prog 3 [c3]:=Q9 (hf 3 _ rfl) (n := 1) (by kernel_rfl) rfl
 obtain ⟨v3,q3,b3⟩:=f3.toI64 Tryz.underlying3
 have f4:Of Tryz.prog 59 [c4]:=Q9 (hf 4 _ rfl) (n := 1) (by kernel_rfl) rfl
 obtain ⟨w4,q4,b4,m4⟩:=f4.toSlice Tryz.underlying59
 rw [ZbA] at q4
 rw [Ze8] at b4
 obtain ⟨v4,e4,n4⟩:=YN (row := (fun x=>[.int .i64 x])) (fun r hr hq=>Zl9 hq) m4
 replace b4:v4.length*8≤140737488351232:=by rw [e4,dF] at b4;exact b4
 have f5:Of Tryz.prog 59 [c5]:=Q9 (hf 5 _ rfl) (n := 1) (by kernel_rfl) rfl
 obtain ⟨w5,q5,b5,m5⟩:=f5.toSlice Tryz.underlying59
 rw [ZbA] at q5
 rw [Ze8] at b5
 obtain ⟨v5,e5,n5⟩:=YN (row := (fun x=>[.int .i64 x])) (fun r hr hq=>Zl9 hq) m5
 replace b5:v5.length*8≤140737488351232:=by rw [e5,dF] at b5;exact b5
 refine ⟨⟨v0,v1,v2,v3,v4,v5⟩,?_,⟨b0,b1,b2,b3,⟨b4,n4⟩,⟨b5,n5⟩⟩⟩
 have hc:([c0,c1,c2,c3,c4,c5]:List AV)=[c0]++[c1]++[c2]++[c3]++[c4]++[c5]:=rfl
 rw [hc]
 rw [q0,q1,q2,q3,q4,q5]
 rw [e4,e5]
 rfl
theorem ZjY {cs:List AV}(h:Of Tryz.prog 92 cs):∃x,cs=F9 x∧Ze1 x:=by
 obtain ⟨hl,hf⟩:=h.toStruct Tryz.underlying92
 rw [show Tryz.prog.cellsOf 92=13 from by kernel_rfl] at hl
 obtain ⟨c0,c1,c2,c3,r0,rfl,hl0⟩:=Gh hl
 obtain ⟨c4,c5,c6,c7,r4,rfl,hl4⟩:=Gh hl0
 obtain ⟨c8,c9,c10,c11,r8,rfl,hl8⟩:=Gh hl4
 obtain ⟨c12,r12,rfl,hl12⟩:=ZkJ hl8
 obtain rfl:=bg hl12
 have f0:Of Tryz.prog 9 [c0]:=Q9 (hf 0 _ rfl) (n := 1) (by kernel_rfl) rfl
 obtain ⟨v0,q0,b0⟩:=f0.toStr Tryz.underlying9
 have f1:Of Tryz.prog 61 [c1,c2,c3,c4,c5,c6]:=Q9 (hf 1 _ rfl) (n := 6) (by kernel_rfl) rfl
 obtain ⟨v1,q1,b1⟩:=ZeO f1
 have f2:Of Tryz.prog 61 [c7,c8,c9,c10,c11,c12]:=Q9 (hf 2 _ rfl) (n := 6) (by kernel_rfl) rfl
 obtain ⟨v2,q2,b2⟩:=ZeO f2
 refine ⟨⟨v0,v1,v2⟩,?_,⟨b0,b1,b2⟩⟩
 have hc:([c0,c1,c2,c3,c4,c5,c6,c7,c8,c9,c10,c11,c12]:List AV)=[c0]++[c1,c2,c3,c4,c5,c6]++[c7,c8,c9,c10,c11,c12]:=rfl
 rw [hc]
 rw [q0,q1,q2]
 unfold F9;simp only [bJ,gB,bn]
theorem Fa {cs:List AV}(h:Of Tryz.prog 94 cs):∃x,cs=YF x∧Yw x:=by
 obtain ⟨hl,hf⟩:=h.toStruct Tryz.underlying94
 rw [show Tryz.prog.cellsOf 94=17 from by kernel_rfl] at hl
 obtain ⟨c0,c1,c2,c3,r0,rfl,hl0⟩:=Gh hl
 obtain ⟨c4,c5,c6,c7,r4,rfl,hl4⟩:=Gh hl0
 obtain ⟨c8,c9,c10,c11,r8,rfl,hl8⟩:=Gh hl4
 obtain ⟨c12,c13,c14,c15,r12,rfl,hl12⟩:=Gh hl8
 obtain ⟨c16,r16,rfl,hl16⟩:=ZkJ hl12
 obtain rfl:=bg hl16
 have f0:Of Tryz.prog 9 [c0]:=Q9 (hf 0 _ rfl) (n := 1) (by kernel_rfl) rfl
 obtain ⟨v0,q0,b0⟩:=f0.toStr Tryz.underlying9
 have f1:Of Tryz.prog 3 [c1]:=Q9 (hf 1 _ rfl) (n := 1) (by kernel_rfl) rfl
 obtain ⟨v1,q1,b1⟩:=f1.toI64 Tryz.underlying3
 have f2:Of Tryz.prog 90 [c2]:=Q9 (hf 2 _ rfl) (n := 1) (by kernel_rfl) rfl
 obtain ⟨w2,q2,b2,m2⟩:=f2.toSlice Tryz.underlying90
 rw [ZgY] at q2
 rw [ZhZ] at b2
 obtain ⟨v2,e2,n2⟩:=YN (row := Hm) (fun r hr hq=>ZiA hq) m2
 replace b2:v2.length*16≤140737488351232:=by rw [e2,dF] at b2;exact b2
 have f3:Of Tryz.prog 3 [c3]:=Q9 (hf 3 _ rfl) (n := 1) (by kernel_rfl) rfl
 obtain ⟨v3,q3,b3⟩:=f3.toI64 Tryz.underlying3
 have f4:Of Tryz.prog 92 [c4,c5,c6,c7,c8,c9,c10,c11,c12,c13,c14,c15,c16]:=Q9 (hf 4 _ rfl) (n := 13) (by kernel_rfl) rfl
 obtain ⟨v4,q4,b4⟩:=ZjY f4
 refine ⟨⟨v0,v1,v2,v3,v4⟩,?_,⟨b0,b1,⟨b2,n2⟩,b3,b4⟩⟩
 have hc:([c0,c1,c2,c3,c4,c5,c6,c7,c8,c9,c10,c11,c12,c13,c14,c15,c16]:List AV)=[c0]++[c1]++[c2]++[c3]++[c4,c5,c6,c7,c8,c9,c10,c11,c12,c13,c14,c15,c16]:=rfl
 rw [hc]
 rw [q0,q1,q2,q3,q4]
 rw [e2]
 unfold YF;simp only [bJ,gB,bn]
theorem Zdy {cs:List AV}(h:Of Tryz.prog 149 cs):∃x,cs=QD x∧GG x:=by
 obtain ⟨hl,hf⟩:=h.toStruct Tryz.underlying149
 rw [show Tryz.prog.cellsOf 149=3 from by kernel_rfl] at hl
 obtain ⟨c0,c1,c2,r0,rfl,hl0⟩:=Zhi hl
 obtain rfl:=bg hl0
 have f0:Of Tryz.prog 9 [c0]:=Q9 (hf 0 _ rfl) (n := 1) (by kernel_rfl) rfl
 obtain ⟨v0,q0,b0⟩:=f0.toStr Tryz.underlying9
 have f1:Of Tryz.prog 3 [c1]:=Q9 (hf 1 _ rfl) (n := 1) (by kernel_rfl) rfl
 obtain ⟨v1,q1,b1⟩:=f1.toI64 Tryz.underlying3
 have f2:Of Tryz.prog 147 [c2]:=Q9 (hf 2 _ rfl) (n := 1) (by kernel_rfl) rfl
 obtain ⟨v2,q2,b2⟩:=f2.toI64 Tryz.underlying147
 refine ⟨⟨v0,v1,v2⟩,?_,⟨b0,b1,b2⟩⟩
 have hc:([c0,c1,c2]:List AV)=[c0]++[c1]++[c2]:=rfl
 rw [hc]
 rw [q0,q1,q2]
 rfl
theorem ZeN {cs:List AV}(h:Of Tryz.prog 152 cs):∃x,cs=XC x∧Me x:=by
 obtain ⟨hl,hf⟩:=h.toStruct Tryz.underlying152
 rw [show Tryz.prog.cellsOf 152=3 from by kernel_rfl] at hl
 obtain ⟨c0,c1,c2,r0,rfl,hl0⟩:=Zhi hl
 obtain rfl:=bg hl0
 have f0:Of Tryz.prog 9 [c0]:=Q9 (hf 0 _ rfl) (n := 1) (by kernel_rfl) rfl
 obtain ⟨v0,q0,b0⟩:=f0.toStr Tryz.underlying9
 have f1:Of Tryz.prog 3 [c1]:=Q9 (hf 1 _ rfl) (n := 1) (by kernel_rfl) rfl
 obtain ⟨v1,q1,b1⟩:=f1.toI64 Tryz.underlying3
 have f2:Of Tryz.prog 3 [c2]:=Q9 (hf 2 _ rfl) (n := 1) (by kernel_rfl) rfl
 obtain ⟨v2,q2,b2⟩:=f2.toI64 Tryz.underlying3
 refine ⟨⟨v0,v1,v2⟩,?_,⟨b0,b1,b2⟩⟩
 have hc:([c0,c1,c2]:List AV)=[c0]++[c1]++[c2]:=rfl
 rw [hc]
 rw [q0,q1,q2]
 rfl
theorem Zgx {cs:List AV}(h:Of Tryz.prog 244 cs):∃x,cs=II x∧E8 x:=by
 obtain ⟨hl,hf⟩:=h.toStruct Tryz.underlying244
 rw [show Tryz.prog.cellsOf 244=2 from by kernel_rfl] at hl
 obtain ⟨c0,c1,r0,rfl,hl0⟩:=Zhh hl
 obtain rfl:=bg hl0
 have f0:Of Tryz.prog 9 [c0]:=Q9 (hf 0 _ rfl) (n := 1) (by kernel_rfl) rfl
 obtain ⟨v0,q0,b0⟩:=f0.toStr Tryz.underlying9
 have f1:Of Tryz.prog 141 [c1]:=Q9 (hf 1 _ rfl) (n := 1) (by kernel_rfl) rfl
 obtain ⟨v1,q1,b1⟩:=f1.toI64 Tryz.underlying141
 refine ⟨⟨v0,v1⟩,?_,⟨b0,b1⟩⟩
 have hc:([c0,c1]:List AV)=[c0]++[c1]:=rfl
 rw [hc]
 rw [q0,q1]
 rfl
theorem ZbR:∀(k:Nat) {cs:List AV},SizeOf.sizeOf cs≤k→Of Tryz.prog 25 cs→∃x,cs=VT x∧Yi x
 |0,cs,hk,h=>by
  obtain ⟨hl,_⟩:=h.toStruct Tryz.underlying25
  rw [show Tryz.prog.cellsOf 25=4 from by kernel_rfl] at hl
  cases cs with
  |nil=>simp at hl
  |cons a r=>simp at hk
 |k+1,cs,hk,h=>by
  obtain ⟨hl,hf⟩:=h.toStruct Tryz.underlying25
  rw [show Tryz.prog.cellsOf 25=4 from by kernel_rfl] at hl
  obtain ⟨c0,c1,c2,c3,r0,rfl,hl0⟩:=Gh hl
  obtain rfl:=bg hl0
  have f0:Of Tryz.prog 22 [c0]:=Q9 (hf 0 _ rfl) (n := 1) (by kernel_rfl) rfl
  obtain ⟨v0,q0,b0⟩:=f0.toI64 Tryz.underlying22
  have f1:Of Tryz.prog 9 [c1]:=Q9 (hf 1 _ rfl) (n := 1) (by kernel_rfl) rfl
  obtain ⟨v1,q1,b1⟩:=f1.toStr Tryz.underlying9
  have f2:Of Tryz.prog 3 [c2]:=Q9 (hf 2 _ rfl) (n := 1) (by kernel_rfl) rfl
  obtain ⟨v2,q2,b2⟩:=f2.toI64 Tryz.underlying3
  have f3:Of Tryz.prog 23 [c3]:=Q9 (hf 3 _ rfl) (n := 1) (by kernel_rfl) rfl
  obtain ⟨w3,q3,b3,m3⟩:=f3.toSlice Tryz.underlying23
  rw [Zdk] at q3
  rw [Zgk] at b3
  obtain ⟨v3,e3,n3⟩:=YN (row := VT) (ok := Yi) (fun r hr hq=>ZbR k (Ziz (w := 4) (rows := w3) (by simp [(List.cons.inj q3).1]) hr hk) hq) m3
  replace b3:v3.length*56≤140737488351232:=by rw [e3,dF] at b3;exact b3
  refine ⟨⟨v0,v1,v2,v3⟩,?_,⟨_,b0,b1,b2,b3,n3⟩⟩
  have hc:([c0,c1,c2,c3]:List AV)=[c0]++[c1]++[c2]++[c3]:=rfl
  rw [hc]
  rw [q0,q1,q2,q3]
  rw [e3]
  rw [Zct];rfl
theorem ZeQ:∀(k:Nat) {cs:List AV},SizeOf.sizeOf cs≤k→Of Tryz.prog 63 cs→∃x,cs=VU x∧Ym x
 |0,cs,hk,h=>by
  obtain ⟨hl,_⟩:=h.toStruct Tryz.underlying63
  rw [show Tryz.prog.cellsOf 63=21 from by kernel_rfl] at hl
  cases cs with
  |nil=>simp at hl
  |cons a r=>simp at hk
 |k+1,cs,hk,h=>by
  obtain ⟨hl,hf⟩:=h.toStruct Tryz.underlying63
  rw [show Tryz.prog.cellsOf 63=21 from by kernel_rfl] at hl
  obtain ⟨c0,c1,c2,c3,r0,rfl,hl0⟩:=Gh hl
  obtain ⟨c4,c5,c6,c7,r4,rfl,hl4⟩:=Gh hl0
  obtain ⟨c8,c9,c10,c11,r8,rfl,hl8⟩:=Gh hl4
  obtain ⟨c12,c13,c14,c15,r12,rfl,hl12⟩:=Gh hl8
  obtain ⟨c16,c17,c18,c19,r16,rfl,hl16⟩:=Gh hl12
  obtain ⟨c20,r20,rfl,hl20⟩:=ZkJ hl16
  obtain rfl:=bg hl20
  have f0:Of Tryz.prog 57 [c0]:=Q9 (hf 0 _ rfl) (n := 1) (by kernel_rfl) rfl
  obtain ⟨v0,q0,b0⟩:=f0.toI64 Tryz.underlying57
  have f1:Of Tryz.prog 9 [c1]:=Q9 (hf 1 _ rfl) (n := 1) (by kernel_rfl) rfl
  obtain ⟨v1,q1,b1⟩:=f1.toStr Tryz.underlying9
  have f2:Of Tryz.prog 9 [c2]:=Q9 (hf 2 _ rfl) (n := 1) (by kernel_rfl) rfl
  obtain ⟨v2,q2,b2⟩:=f2.toStr Tryz.underlying9
  have f3:Of Tryz.prog 25 [c3,c4,c5,c6]:=Q9 (hf 3 _ rfl) (n := 4) (by kernel_rfl) rfl
  obtain ⟨v3,q3,b3⟩:=ZbR _ (dI _) f3
  have f4:Of Tryz.prog 25 [c7,c8,c9,c10]:=Q9 (hf 4 _ rfl) (n := 4) (by kernel_rfl) rfl
  obtain ⟨v4,q4,b4⟩:=ZbR _ (dI _) f4
  have f5:Of Tryz.prog 23 [c11]:=Q9 (hf 5 _ rfl) (n := 1) (by kernel_rfl) rfl
  obtain ⟨w5,q5,b5,m5⟩:=f5.toSlice Tryz.underlying23
  rw [Zdk] at q5
  rw [Zgk] at b5
  obtain ⟨v5,e5,n5⟩:=YN (row := VT) (ok := Yi) (fun r hr hq=>ZbR _ (dI _) hq) m5
  replace b5:v5.length*56≤140737488351232:=by rw [e5,dF] at b5;exact b5
  have f6:Of Tryz.prog 61 [c12,c13,c14,c15,c16,c17]:=Q9 (hf 6 _ rfl) (n := 6) (by kernel_rfl) rfl
  obtain ⟨v6,q6,b6⟩:=ZeO f6
  have f7:Of Tryz.prog 4 [c18]:=Q9 (hf 7 _ rfl) (n := 1) (by kernel_rfl) rfl
  obtain ⟨v7,q7⟩:=f7.toBool Tryz.underlying4
  have b7:True:=trivial
  have f8:Of Tryz.prog 32 [c19]:=Q9 (hf 8 _ rfl) (n := 1) (by kernel_rfl) rfl
  obtain ⟨w8,q8,b8,m8⟩:=f8.toSlice Tryz.underlying32
  rw [Am] at q8
  rw [Zb9] at b8
  obtain ⟨v8,e8,n8⟩:=YN (row := VU) (ok := Ym) (fun r hr hq=>ZeQ k (Ziz (w := 21) (rows := w8) (by simp [(List.cons.inj q8).1]) hr hk) hq) m8
  replace b8:v8.length*312≤140737488351232:=by rw [e8,dF] at b8;exact b8
  have f9:Of Tryz.prog 32 [c20]:=Q9 (hf 9 _ rfl) (n := 1) (by kernel_rfl) rfl
  obtain ⟨w9,q9,b9,m9⟩:=f9.toSlice Tryz.underlying32
  rw [Am] at q9
  rw [Zb9] at b9
  obtain ⟨v9,e9,n9⟩:=YN (row := VU) (ok := Ym) (fun r hr hq=>ZeQ k (Ziz (w := 21) (rows := w9) (by simp [(List.cons.inj q9).1]) hr hk) hq) m9
  replace b9:v9.length*312≤140737488351232:=by rw [e9,dF] at b9;exact b9
  refine ⟨⟨v0,v1,v2,v3,v4,v5,v6,v7,v8,v9⟩,?_,⟨_,b0,b1,b2,b3,b4,b5,n5,b6,b7,b8,n8,b9,n9⟩⟩
  have hc:([c0,c1,c2,c3,c4,c5,c6,c7,c8,c9,c10,c11,c12,c13,c14,c15,c16,c17,c18,c19,c20]:List AV)=[c0]++[c1]++[c2]++[c3,c4,c5,c6]++[c7,c8,c9,c10]++[c11]++[c12,c13,c14,c15,c16,c17]++[c18]++[c19]++[c20]:=rfl
  rw [hc]
  rw [q0,q1,q2,q3,q4,q5,q6,q7,q8,q9]
  rw [e5,e8,e9]
  rw [Zcv];simp only [bJ,gB,bn]
theorem Zhl {cs:List AV}(h:Of Tryz.prog 89 cs):∃x,cs=XK x∧X3 x:=by
 obtain ⟨hl,hf⟩:=h.toStruct Tryz.underlying89
 rw [show Tryz.prog.cellsOf 89=4 from by kernel_rfl] at hl
 obtain ⟨c0,c1,c2,c3,r0,rfl,hl0⟩:=Gh hl
 obtain rfl:=bg hl0
 have f0:Of Tryz.prog 9 [c0]:=Q9 (hf 0 _ rfl) (n := 1) (by kernel_rfl) rfl
 obtain ⟨v0,q0,b0⟩:=f0.toStr Tryz.underlying9
 have f1:Of Tryz.prog 87 [c1]:=Q9 (hf 1 _ rfl) (n := 1) (by kernel_rfl) rfl
 obtain ⟨w1,q1,b1,m1⟩:=f1.toSlice Tryz.underlying87
 rw [ZaY] at q1
 rw [Zdg] at b1
 obtain ⟨v1,e1,n1⟩:=YN (row := II) (fun r hr hq=>Zgx hq) m1
 replace b1:v1.length*24≤140737488351232:=by rw [e1,dF] at b1;exact b1
 have f2:Of Tryz.prog 87 [c2]:=Q9 (hf 2 _ rfl) (n := 1) (by kernel_rfl) rfl
 obtain ⟨w2,q2,b2,m2⟩:=f2.toSlice Tryz.underlying87
 rw [ZaY] at q2
 rw [Zdg] at b2
 obtain ⟨v2,e2,n2⟩:=YN (row := II) (fun r hr hq=>Zgx hq) m2
 replace b2:v2.length*24≤140737488351232:=by rw [e2,dF] at b2;exact b2
 have f3:Of Tryz.prog 32 [c3]:=Q9 (hf 3 _ rfl) (n := 1) (by kernel_rfl) rfl
 obtain ⟨w3,q3,b3,m3⟩:=f3.toSlice Tryz.underlying32
 rw [Am] at q3
 rw [Zb9] at b3
 obtain ⟨v3,e3,n3⟩:=YN (row := VU) (ok := Ym) (fun r hr hq=>ZeQ _ (dI _) hq) m3
 replace b3:v3.length*312≤140737488351232:=by rw [e3,dF] at b3;exact b3
 refine ⟨⟨v0,v1,v2,v3⟩,?_,⟨b0,⟨b1,n1⟩,⟨b2,n2⟩,⟨b3,n3⟩⟩⟩
 have hc:([c0,c1,c2,c3]:List AV)=[c0]++[c1]++[c2]++[c3]:=rfl
 rw [hc]
 rw [q0,q1,q2,q3]
 rw [e1,e2,e3]
 rfl
theorem Zka {cs:List AV}(h:Of Tryz.prog 156 cs):∃x,cs=LG x∧Ux x:=by
 obtain ⟨hl,hf⟩:=h.toStruct Tryz.underlying156
 rw [show Tryz.prog.cellsOf 156=5 from by kernel_rfl] at hl
 obtain ⟨c0,c1,c2,c3,r0,rfl,hl0⟩:=Gh hl
 obtain ⟨c4,r4,rfl,hl4⟩:=ZkJ hl0
 obtain rfl:=bg hl4
 have f0:Of Tryz.prog 9 [c0]:=Q9 (hf 0 _ rfl) (n := 1) (by kernel_rfl) rfl
 obtain ⟨v0,q0,b0⟩:=f0.toStr Tryz.underlying9
 have f1:Of Tryz.prog 59 [c1]:=Q9 (hf 1 _ rfl) (n := 1) (by kernel_rfl) rfl
 obtain ⟨w1,q1,b1,m1⟩:=f1.toSlice Tryz.underlying59
 rw [ZbA] at q1
 rw [Ze8] at b1
 obtain ⟨v1,e1,n1⟩:=YN (row := (fun x=>[.int .i64 x])) (fun r hr hq=>Zl9 hq) m1
 replace b1:v1.length*8≤140737488351232:=by rw [e1,dF] at b1;exact b1
 have f2:Of Tryz.prog 3 [c2]:=Q9 (hf 2 _ rfl) (n := 1) (by kernel_rfl) rfl
 obtain ⟨v2,q2,b2⟩:=f2.toI64 Tryz.underlying3
 have f3:Of Tryz.prog 3 [c3]:=Q9 (hf 3 _ rfl) (n := 1) (by kernel_rfl) rfl
 obtain ⟨v3,q3,b3⟩:=f3.toI64 Tryz.underlying3
 have f4:Of Tryz.prog 3 [c4]:=Q9 (hf 4 _ rfl) (n := 1) (by kernel_rfl) rfl
 obtain ⟨v4,q4,b4⟩:=f4.toI64 Tryz.underlying3
 refine ⟨⟨v0,v1,v2,v3,v4⟩,?_,⟨b0,⟨b1,n1⟩,b2,b3,b4⟩⟩
 have hc:([c0,c1,c2,c3,c4]:List AV)=[c0]++[c1]++[c2]++[c3]++[c4]:=rfl
 rw [hc]
 rw [q0,q1,q2,q3,q4]
 rw [e1]
 rfl
theorem Zl8 {cs:List AV}(h:Of Tryz.prog 248 cs):∃x,cs=Zcw x∧Zgf x:=by
 obtain ⟨hl,hf⟩:=h.toStruct Tryz.underlying248
 rw [show Tryz.prog.cellsOf 248=3 from by kernel_rfl] at hl
 obtain ⟨c0,c1,c2,r0,rfl,hl0⟩:=Zhi hl
 obtain rfl:=bg hl0
 have f0:Of Tryz.prog 3 [c0]:=Q9 (hf 0 _ rfl) (n := 1) (by kernel_rfl) rfl
 obtain ⟨v0,q0,b0⟩:=f0.toI64 Tryz.underlying3
 have f1:Of Tryz.prog 9 [c1]:=Q9 (hf 1 _ rfl) (n := 1) (by kernel_rfl) rfl
 obtain ⟨v1,q1,b1⟩:=f1.toStr Tryz.underlying9
 have f2:Of Tryz.prog 9 [c2]:=Q9 (hf 2 _ rfl) (n := 1) (by kernel_rfl) rfl
 obtain ⟨v2,q2,b2⟩:=f2.toStr Tryz.underlying9
 refine ⟨⟨v0,v1,v2⟩,?_,⟨b0,b1,b2⟩⟩
 have hc:([c0,c1,c2]:List AV)=[c0]++[c1]++[c2]:=rfl
 rw [hc]
 rw [q0,q1,q2]
 rfl
theorem ZmJ {cs:List AV}(h:Of Tryz.prog 160 cs):∃x,cs=Zj6 x∧ZcW x:=by
 obtain ⟨hl,hf⟩:=h.toStruct Tryz.underlying160
 rw [show Tryz.prog.cellsOf 160=3 from by kernel_rfl] at hl
 obtain ⟨c0,c1,c2,r0,rfl,hl0⟩:=Zhi hl
 obtain rfl:=bg hl0
 have f0:Of Tryz.prog 9 [c0]:=Q9 (hf 0 _ rfl) (n := 1) (by kernel_rfl) rfl
 obtain ⟨v0,q0,b0⟩:=f0.toStr Tryz.underlying9
 have f1:Of Tryz.prog 158 [c1]:=Q9 (hf 1 _ rfl) (n := 1) (by kernel_rfl) rfl
 obtain ⟨w1,q1,b1,m1⟩:=f1.toSlice Tryz.underlying158
 rw [ZgZ] at q1
 rw [Zia] at b1
 obtain ⟨v1,e1,n1⟩:=YN (row := Zcw) (fun r hr hq=>Zl8 hq) m1
 replace b1:v1.length*40≤140737488351232:=by rw [e1,dF] at b1;exact b1
 have f2:Of Tryz.prog 3 [c2]:=Q9 (hf 2 _ rfl) (n := 1) (by kernel_rfl) rfl
 obtain ⟨v2,q2,b2⟩:=f2.toI64 Tryz.underlying3
 refine ⟨⟨v0,v1,v2⟩,?_,⟨b0,⟨b1,n1⟩,b2⟩⟩
 have hc:([c0,c1,c2]:List AV)=[c0]++[c1]++[c2]:=rfl
 rw [hc]
 rw [q0,q1,q2]
 rw [e1]
 rfl
theorem ZeP {cs:List AV}(h:Of Tryz.prog 72 cs):∃x,cs=Q3 x∧Z8 x:=by
 obtain ⟨hl,hf⟩:=h.toStruct Tryz.underlying72
 rw [show Tryz.prog.cellsOf 72=13 from by kernel_rfl] at hl
 obtain ⟨c0,c1,c2,c3,r0,rfl,hl0⟩:=Gh hl
 obtain ⟨c4,c5,c6,c7,r4,rfl,hl4⟩:=Gh hl0
 obtain ⟨c8,c9,c10,c11,r8,rfl,hl8⟩:=Gh hl4
 obtain ⟨c12,r12,rfl,hl12⟩:=ZkJ hl8
 obtain rfl:=bg hl12
 have f0:Of Tryz.prog 9 [c0]:=Q9 (hf 0 _ rfl) (n := 1) (by kernel_rfl) rfl
 obtain ⟨v0,q0,b0⟩:=f0.toStr Tryz.underlying9
 have f1:Of Tryz.prog 36 [c1]:=Q9 (hf 1 _ rfl) (n := 1) (by kernel_rfl) rfl
 obtain ⟨w1,q1,b1,m1⟩:=f1.toSlice Tryz.underlying36
 rw [ZaX] at q1
 rw [Zdf] at b1
 obtain ⟨v1,e1,n1⟩:=YN (row := Gs) (fun r hr hq=>Zgy hq) m1
 replace b1:v1.length*32≤140737488351232:=by rw [e1,dF] at b1;exact b1
 have f2:Of Tryz.prog 64 [c2]:=Q9 (hf 2 _ rfl) (n := 1) (by kernel_rfl) rfl
 obtain ⟨w2,q2,b2,m2⟩:=f2.toSlice Tryz.underlying64
 rw [Zie] at q2
 rw [ZjE] at b2
 obtain ⟨v2,e2,n2⟩:=YN (row := YF) (fun r hr hq=>Fa hq) m2
 replace b2:v2.length*232≤140737488351232:=by rw [e2,dF] at b2;exact b2
 have f3:Of Tryz.prog 65 [c3]:=Q9 (hf 3 _ rfl) (n := 1) (by kernel_rfl) rfl
 obtain ⟨w3,q3,b3,m3⟩:=f3.toSlice Tryz.underlying65
 rw [ZgU] at q3
 rw [ZhV] at b3
 obtain ⟨v3,e3,n3⟩:=YN (row := QD) (fun r hr hq=>Zdy hq) m3
 replace b3:v3.length*32≤140737488351232:=by rw [e3,dF] at b3;exact b3
 have f4:Of Tryz.prog 66 [c4]:=Q9 (hf 4 _ rfl) (n := 1) (by kernel_rfl) rfl
 obtain ⟨w4,q4,b4,m4⟩:=f4.toSlice Tryz.underlying66
 rw [ZgV] at q4
 rw [ZhW] at b4
 obtain ⟨v4,e4,n4⟩:=YN (row := XC) (fun r hr hq=>ZeN hq) m4
 replace b4:v4.length*32≤140737488351232:=by rw [e4,dF] at b4;exact b4
 have f5:Of Tryz.prog 67 [c5]:=Q9 (hf 5 _ rfl) (n := 1) (by kernel_rfl) rfl
 obtain ⟨w5,q5,b5,m5⟩:=f5.toSlice Tryz.underlying67
 rw [Dq] at q5
 rw [Ak] at b5
 obtain ⟨v5,e5,n5⟩:=YN (row := (fun x=>[.str x])) (fun r hr hq=>ZiB hq) m5
 replace b5:v5.length*16≤140737488351232:=by rw [e5,dF] at b5;exact b5
 have f6:Of Tryz.prog 67 [c6]:=Q9 (hf 6 _ rfl) (n := 1) (by kernel_rfl) rfl
 obtain ⟨w6,q6,b6,m6⟩:=f6.toSlice Tryz.underlying67
 rw [Dq] at q6
 rw [Ak] at b6
 obtain ⟨v6,e6,n6⟩:=YN (row := (fun x=>[.str x])) (fun r hr hq=>ZiB hq) m6
 replace b6:v6.length*16≤140737488351232:=by rw [e6,dF] at b6;exact b6
 have f7:Of Tryz.prog 67 [c7]:=Q9 (hf 7 _ rfl) (n := 1) (by kernel_rfl) rfl
 obtain ⟨w7,q7,b7,m7⟩:=f7.toSlice Tryz.underlying67
 rw [Dq] at q7
 rw [Ak] at b7
 obtain ⟨v7,e7,n7⟩:=YN (row := (fun x=>[.str x])) (fun r hr hq=>ZiB hq) m7
 replace b7:v7.length*16≤140737488351232:=by rw [e7,dF] at b7;exact b7
 have f8:Of Tryz.prog 67 [c8]:=Q9 (hf 8 _ rfl) (n := 1) (by kernel_rfl) rfl
 obtain ⟨w8,q8,b8,m8⟩:=f8.toSlice Tryz.underlying67
 rw [Dq] at q8
 rw [Ak] at b8
 obtain ⟨v8,e8,n8⟩:=YN (row := (fun x=>[.str x])) (fun r hr hq=>ZiB hq) m8
 replace b8:v8.length*16≤140737488351232:=by rw [e8,dF] at b8;exact b8
 have f9:Of Tryz.prog 67 [c9]:=Q9 (hf 9 _ rfl) (n := 1) (by kernel_rfl) rfl
 obtain ⟨w9,q9,b9,m9⟩:=f9.toSlice Tryz.underlying67
 rw [Dq] at q9
 rw [Ak] at b9
 obtain ⟨v9,e9,n9⟩:=YN (row := (fun x=>[.str x])) (fun r hr hq=>ZiB hq) m9
 replace b9:v9.length*16≤140737488351232:=by rw [e9,dF] at b9;exact b9
 have f10:Of Tryz.prog 68 [c10]:=Q9 (hf 10 _ rfl) (n := 1) (by kernel_rfl) rfl
 obtain ⟨w10,q10,b10,m10⟩:=f10.toSlice Tryz.underlying68
 rw [Zid] at q10
 rw [ZjD] at b10
 obtain ⟨v10,e10,n10⟩:=YN (row := XK) (fun r hr hq=>Zhl hq) m10
 replace b10:v10.length*88≤140737488351232:=by rw [e10,dF] at b10;exact b10
 have f11:Of Tryz.prog 69 [c11]:=Q9 (hf 11 _ rfl) (n := 1) (by kernel_rfl) rfl
 obtain ⟨w11,q11,b11,m11⟩:=f11.toSlice Tryz.underlying69
 rw [ZgW] at q11
 rw [ZhX] at b11
 obtain ⟨v11,e11,n11⟩:=YN (row := LG) (fun r hr hq=>Zka hq) m11
 replace b11:v11.length*64≤140737488351232:=by rw [e11,dF] at b11;exact b11
 have f12:Of Tryz.prog 70 [c12]:=Q9 (hf 12 _ rfl) (n := 1) (by kernel_rfl) rfl
 obtain ⟨w12,q12,b12,m12⟩:=f12.toSlice Tryz.underlying70
 rw [ZgX] at q12
 rw [ZhY] at b12
 obtain ⟨v12,e12,n12⟩:=YN (row := Zj6) (fun r hr hq=>ZmJ hq) m12
 replace b12:v12.length*48≤140737488351232:=by rw [e12,dF] at b12;exact b12
 refine ⟨⟨v0,v1,v2,v3,v4,v5,v6,v7,v8,v9,v10,v11,v12⟩,?_,⟨b0,⟨b1,n1⟩,⟨b2,n2⟩,⟨b3,n3⟩,⟨b4,n4⟩,⟨b5,n5⟩,⟨b6,n6⟩,⟨b7,n7⟩,⟨b8,n8⟩,⟨b9,n9⟩,⟨b10,n10⟩,⟨b11,n11⟩,⟨b12,n12⟩⟩⟩
 have hc:([c0,c1,c2,c3,c4,c5,c6,c7,c8,c9,c10,c11,c12]:List AV)=[c0]++[c1]++[c2]++[c3]++[c4]++[c5]++[c6]++[c7]++[c8]++[c9]++[c10]++[c11]++[c12]:=rfl
 rw [hc]
 rw [q0,q1,q2,q3,q4,q5,q6,q7,q8,q9,q10,q11,q12]
 rw [e1,e2,e3,e4,e5,e6,e7,e8,e9,e10,e11,e12]
 rfl
theorem Zl7 {cs:List AV}(h:Of Tryz.prog 100 cs):∃x,cs=Zcu x∧Zge x:=by
 obtain ⟨hl,hf⟩:=h.toStruct Tryz.underlying100
 rw [show Tryz.prog.cellsOf 100=3 from by kernel_rfl] at hl
 obtain ⟨c0,c1,c2,r0,rfl,hl0⟩:=Zhi hl
 obtain rfl:=bg hl0
 have f0:Of Tryz.prog 9 [c0]:=Q9 (hf 0 _ rfl) (n := 1) (by kernel_rfl) rfl
 obtain ⟨v0,q0,b0⟩:=f0.toStr Tryz.underlying9
 have f1:Of Tryz.prog 9 [c1]:=Q9 (hf 1 _ rfl) (n := 1) (by kernel_rfl) rfl
 obtain ⟨v1,q1,b1⟩:=f1.toStr Tryz.underlying9
 have f2:Of Tryz.prog 3 [c2]:=Q9 (hf 2 _ rfl) (n := 1) (by kernel_rfl) rfl
 obtain ⟨v2,q2,b2⟩:=f2.toI64 Tryz.underlying3
 refine ⟨⟨v0,v1,v2⟩,?_,⟨b0,b1,b2⟩⟩
 have hc:([c0,c1,c2]:List AV)=[c0]++[c1]++[c2]:=rfl
 rw [hc]
 rw [q0,q1,q2]
 rfl
theorem ZjZ {cs:List AV}(h:Of Tryz.prog 40 cs):∃x,cs=Cc x∧Xu x:=by
 obtain ⟨hl,hf⟩:=h.toStruct Tryz.underlying40
 rw [show Tryz.prog.cellsOf 40=4 from by kernel_rfl] at hl
 obtain ⟨c0,c1,c2,c3,r0,rfl,hl0⟩:=Gh hl
 obtain rfl:=bg hl0
 have f0:Of Tryz.prog 9 [c0]:=Q9 (hf 0 _ rfl) (n := 1) (by kernel_rfl) rfl
 obtain ⟨v0,q0,b0⟩:=f0.toStr Tryz.underlying9
 have f1:Of Tryz.prog 36 [c1]:=Q9 (hf 1 _ rfl) (n := 1) (by kernel_rfl) rfl
 obtain ⟨w1,q1,b1,m1⟩:=f1.toSlice Tryz.underlying36
 rw [ZaX] at q1
 rw [Zdf] at b1
 obtain ⟨v1,e1,n1⟩:=YN (row := Gs) (fun r hr hq=>Zgy hq) m1
 replace b1:v1.length*32≤140737488351232:=by rw [e1,dF] at b1;exact b1
 have f2:Of Tryz.prog 37 [c2]:=Q9 (hf 2 _ rfl) (n := 1) (by kernel_rfl) rfl
 obtain ⟨w2,q2,b2,m2⟩:=f2.toSlice Tryz.underlying37
 rw [Zic] at q2
 rw [ZjC] at b2
 obtain ⟨v2,e2,n2⟩:=YN (row := Q3) (fun r hr hq=>ZeP hq) m2
 replace b2:v2.length*304≤140737488351232:=by rw [e2,dF] at b2;exact b2
 have f3:Of Tryz.prog 38 [c3]:=Q9 (hf 3 _ rfl) (n := 1) (by kernel_rfl) rfl
 obtain ⟨w3,q3,b3,m3⟩:=f3.toSlice Tryz.underlying38
 rw [ZgT] at q3
 rw [ZhU] at b3
 obtain ⟨v3,e3,n3⟩:=YN (row := Zcu) (fun r hr hq=>Zl7 hq) m3
 replace b3:v3.length*40≤140737488351232:=by rw [e3,dF] at b3;exact b3
 refine ⟨⟨v0,v1,v2,v3⟩,?_,⟨b0,⟨b1,n1⟩,⟨b2,n2⟩,⟨b3,n3⟩⟩⟩
 have hc:([c0,c1,c2,c3]:List AV)=[c0]++[c1]++[c2]++[c3]:=rfl
 rw [hc]
 rw [q0,q1,q2,q3]
 rw [e1,e2,e3]
 rfl
end Go.Proofs.YtbcfddaocfpckaaGreatDoor
end
