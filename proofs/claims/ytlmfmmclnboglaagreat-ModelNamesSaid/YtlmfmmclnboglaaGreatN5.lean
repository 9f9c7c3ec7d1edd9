import Derived.Test.YtlmfmmclnboglaaGreatProg
import Derived.ProofKit
import Derived.LoopN
import Derived.Scope
import Derived.Orders
import Derived.Shelf.Spec.SlicesGrow
import Derived.Test.YtlmfmmclnboglaaGreatN4
set_option linter.all false
section
namespace Go.Proofs.YtlmfmmclnboglaaGreat
open Go Go.RowKit Go.Proofs.YtlmfmmclnboglaaGreat.Abs
set_option linter.all false
set_option maxRecDepth 100000
set_option maxHeartbeats 0
theorem JD {α:Type _}{l:List α}{n:Nat}(h:l.length=n + 1):∃ a r,l=a :: r∧r.length=n:=by
 cases l with
 | nil=>simp at h
 | cons a r=>exact ⟨a,r,rfl,by simpa using h⟩
theorem Zpm {cs:List AV}{w k:Nat}{rows:List (List AV)}{r:List AV}(h1:AV.lst w rows ∈ cs)(h2:r ∈ rows)(h3:SizeOf.sizeOf cs≤k + 1):SizeOf.sizeOf r≤k:=by
 have a1:=List.sizeOf_lt_of_mem h1
 have a2:=List.sizeOf_lt_of_mem h2
 have a3:SizeOf.sizeOf (AV.lst w rows)=1 + SizeOf.sizeOf w + SizeOf.sizeOf rows:=by simp
 omega
theorem Jf {α:Type}{Q:List AV→Prop}{row:α→List AV}{ok:α→Prop}:∀ {rows:List (List AV)},(∀ r ∈ rows,Q r→∃ x,r=row x∧ok x)→(∀ r ∈ rows,Q r)→∃ l:List α,rows=l.map row∧∀ x ∈ l,ok x
 | [],_,_=>⟨[],rfl,fun x h=>by cases h⟩
 | r :: rs,hq,h=>by
  obtain ⟨x,h1,h2⟩:=hq r (List.mem_cons_self ..) (h r (List.mem_cons_self ..))
  obtain ⟨l,h3,h4⟩:=Jf (rows := rs) (fun y hy=>hq y (List.mem_cons_of_mem _ hy)) fun y hy=>h y (List.mem_cons_of_mem _ hy)
  exact ⟨x :: l,by rw [h1,h3]; rfl,fun y hy=>by
   rcases List.mem_cons.1 hy with rfl | hy
   ·exact h2
   ·exact h4 y hy⟩
def ZsE:List TypeId:=[26,9,22,69,67,3,23,42,34,92,84,159,90,88,85,86,35,95,93,36,97,37,38,79,76,103,77,181,175,179,176,177,4,39,105,40,57,55,54,24,49]
theorem ZqW:ZsD Tryz.prog ZsE=true:=by kernel_rfl
theorem Zmi:Tryz.prog.bytesOf 3=8:=by kernel_rfl
theorem ZjC:Tryz.prog.cellsOf 3=1:=by kernel_rfl
theorem ZfC:Tryz.prog.bytesOf 9=16:=by kernel_rfl
theorem ZbY:Tryz.prog.cellsOf 9=1:=by kernel_rfl
theorem Zqt:Tryz.prog.bytesOf 42=304:=by kernel_rfl
theorem ZoJ:Tryz.prog.cellsOf 42=13:=by kernel_rfl
theorem Zqu:Tryz.prog.bytesOf 49=40:=by kernel_rfl
theorem ZoK:Tryz.prog.cellsOf 49=3:=by kernel_rfl
theorem Zqv:Tryz.prog.bytesOf 54=40:=by kernel_rfl
theorem ZoL:Tryz.prog.cellsOf 54=3:=by kernel_rfl
theorem Zqw:Tryz.prog.bytesOf 57=48:=by kernel_rfl
theorem ZoM:Tryz.prog.cellsOf 57=3:=by kernel_rfl
theorem Znf:Tryz.prog.bytesOf 69=32:=by kernel_rfl
theorem ZkT:Tryz.prog.cellsOf 69=3:=by kernel_rfl
theorem Zqx:Tryz.prog.bytesOf 79=88:=by kernel_rfl
theorem ZoN:Tryz.prog.cellsOf 79=4:=by kernel_rfl
theorem Zqy:Tryz.prog.bytesOf 92=232:=by kernel_rfl
theorem ZoO:Tryz.prog.cellsOf 92=17:=by kernel_rfl
theorem Zqz:Tryz.prog.bytesOf 95=32:=by kernel_rfl
theorem ZoP:Tryz.prog.cellsOf 95=3:=by kernel_rfl
theorem Zq0:Tryz.prog.bytesOf 97=32:=by kernel_rfl
theorem ZoQ:Tryz.prog.cellsOf 97=3:=by kernel_rfl
theorem ZkF:Tryz.prog.bytesOf 103=24:=by kernel_rfl
theorem ZiT:Tryz.prog.cellsOf 103=2:=by kernel_rfl
theorem ZoD:Tryz.prog.bytesOf 105=64:=by kernel_rfl
theorem ZnO:Tryz.prog.cellsOf 105=5:=by kernel_rfl
theorem ZoE:Tryz.prog.bytesOf 159=16:=by kernel_rfl
theorem ZnP:Tryz.prog.cellsOf 159=2:=by kernel_rfl
theorem ZkG:Tryz.prog.bytesOf 179=56:=by kernel_rfl
theorem ZiU:Tryz.prog.cellsOf 179=4:=by kernel_rfl
theorem ZfB:Tryz.prog.bytesOf 181=312:=by kernel_rfl
theorem Zdn:Tryz.prog.cellsOf 181=21:=by kernel_rfl
theorem ZsC {cs:List AV}(h:Of Tryz.prog 3 cs):∃ x:Int,cs=[.int .i64 x]∧(-9223372036854775808≤x∧x≤9223372036854775807):=h.toI64 Tryz.underlying3
theorem Zp2 {cs:List AV}(h:Of Tryz.prog 9 cs):∃ x:List UInt8,cs=[.str x]∧x.length≤140737488351232:=h.toStr Tryz.underlying9
theorem Zn2 {cs:List AV}(h:Of Tryz.prog 69 cs):∃ x,cs=Vw x∧Zf4 x:=by
 obtain ⟨hl,hf⟩:=h.toStruct Tryz.underlying69
 rw [show Tryz.prog.cellsOf 69=3 from by kernel_rfl] at hl
 obtain ⟨c0,r0,rfl,hl0⟩:=JD hl
 obtain ⟨c1,r1,rfl,hl1⟩:=JD hl0
 obtain ⟨c2,r2,rfl,hl2⟩:=JD hl1
 obtain rfl:=List.eq_nil_of_length_eq_zero hl2
 have f0:Of Tryz.prog 9 ((([c0,c1,c2]:List AV).drop 0).take (Tryz.prog.cellsOf 9)):=hf 0 _ rfl
 rw [show Tryz.prog.cellsOf 9=1 from by kernel_rfl] at f0
 replace f0:Of Tryz.prog 9 [c0]:=f0
 obtain ⟨v0,q0,b0⟩:=f0.toStr Tryz.underlying9
 have f1:Of Tryz.prog 67 ((([c0,c1,c2]:List AV).drop 1).take (Tryz.prog.cellsOf 67)):=hf 1 _ rfl
 rw [show Tryz.prog.cellsOf 67=1 from by kernel_rfl] at f1
 replace f1:Of Tryz.prog 67 [c1]:=f1
 obtain ⟨v1,q1,b1⟩:=f1.toI64 Tryz.underlying67
 have f2:Of Tryz.prog 3 ((([c0,c1,c2]:List AV).drop 2).take (Tryz.prog.cellsOf 3)):=hf 2 _ rfl
 rw [show Tryz.prog.cellsOf 3=1 from by kernel_rfl] at f2
 replace f2:Of Tryz.prog 3 [c2]:=f2
 obtain ⟨v2,q2,b2⟩:=f2.toI64 Tryz.underlying3
 refine ⟨⟨v0,v1,v2⟩,?_,⟨b0,b1,b2⟩⟩
 have hc:([c0,c1,c2]:List AV)=[c0] ++ [c1] ++ [c2]:=rfl
 rw [hc]
 rw [q0,q1,q2]
 rfl
theorem Zp1 {cs:List AV}(h:Of Tryz.prog 159 cs):∃ x,cs=U3 x∧Znc x:=by
 obtain ⟨hl,hf⟩:=h.toStruct Tryz.underlying159
 rw [show Tryz.prog.cellsOf 159=2 from by kernel_rfl] at hl
 obtain ⟨c0,r0,rfl,hl0⟩:=JD hl
 obtain ⟨c1,r1,rfl,hl1⟩:=JD hl0
 obtain rfl:=List.eq_nil_of_length_eq_zero hl1
 have f0:Of Tryz.prog 3 ((([c0,c1]:List AV).drop 0).take (Tryz.prog.cellsOf 3)):=hf 0 _ rfl
 rw [show Tryz.prog.cellsOf 3=1 from by kernel_rfl] at f0
 replace f0:Of Tryz.prog 3 [c0]:=f0
 obtain ⟨v0,q0,b0⟩:=f0.toI64 Tryz.underlying3
 have f1:Of Tryz.prog 3 ((([c0,c1]:List AV).drop 1).take (Tryz.prog.cellsOf 3)):=hf 1 _ rfl
 rw [show Tryz.prog.cellsOf 3=1 from by kernel_rfl] at f1
 replace f1:Of Tryz.prog 3 [c1]:=f1
 obtain ⟨v1,q1,b1⟩:=f1.toI64 Tryz.underlying3
 refine ⟨⟨v0,v1⟩,?_,⟨b0,b1⟩⟩
 have hc:([c0,c1]:List AV)=[c0] ++ [c1]:=rfl
 rw [hc]
 rw [q0,q1]
 rfl
theorem Zm2 {cs:List AV}(h:Of Tryz.prog 88 cs):∃ x,cs=IL x∧Pp x:=by
 obtain ⟨hl,hf⟩:=h.toStruct Tryz.underlying88
 rw [show Tryz.prog.cellsOf 88=6 from by kernel_rfl] at hl
 obtain ⟨c0,r0,rfl,hl0⟩:=JD hl
 obtain ⟨c1,r1,rfl,hl1⟩:=JD hl0
 obtain ⟨c2,r2,rfl,hl2⟩:=JD hl1
 obtain ⟨c3,r3,rfl,hl3⟩:=JD hl2
 obtain ⟨c4,r4,rfl,hl4⟩:=JD hl3
 obtain ⟨c5,r5,rfl,hl5⟩:=JD hl4
 obtain rfl:=List.eq_nil_of_length_eq_zero hl5
 have f0:Of Tryz.prog 85 ((([c0,c1,c2,c3,c4,c5]:List AV).drop 0).take (Tryz.prog.cellsOf 85)):=hf 0 _ rfl
 rw [show Tryz.prog.cellsOf 85=1 from by kernel_rfl] at f0
 replace f0:Of Tryz.prog 85 [c0]:=f0
 obtain ⟨v0,q0,b0⟩:=f0.toI64 Tryz.underlying85
 have f1:Of Tryz.prog 3 ((([c0,c1,c2,c3,c4,c5]:List AV).drop 1).take (Tryz.prog.cellsOf 3)):=hf 1 _ rfl
 rw [show Tryz.prog.cellsOf 3=1 from by kernel_rfl] at f1
 replace f1:Of Tryz.prog 3 [c1]:=f1
 obtain ⟨v1,q1,b1⟩:=f1.toI64 Tryz.underlying3
 have f2:Of Tryz.prog 3 ((([c0,c1,c2,c3,c4,c5]:List AV).drop 2).take (Tryz.prog.cellsOf 3)):=hf 2 _ rfl
 rw [show Tryz.prog.cellsOf 3=1 from by kernel_rfl] at f2
 replace f2:Of Tryz.prog 3 [c2]:=f2
 obtain ⟨v2,q2,b2⟩:=f2.toI64 Tryz.underlying3
 have f3:Of Tryz.prog 3 ((([c0,c1,c2,c3,c4,c5]:List AV).drop 3).take (Tryz.prog.cellsOf 3)):=hf 3 _ rfl
 rw [show Tryz.prog.cellsOf 3=1 from by kernel_rfl] at f3
 replace f3:Of Tryz.prog 3 [c3]:=f3
 obtain ⟨v3,q3,b3⟩:=f3.toI64 Tryz.underlying3
 have f4:Of Tryz.prog 86 ((([c0,c1,c2,c3,c4,c5]:List AV).drop 4).take (Tryz.prog.cellsOf 86)):=hf 4 _ rfl
 rw [show Tryz.prog.cellsOf 86=1 from by kernel_rfl] at f4
 replace f4:Of Tryz.prog 86 [c4]:=f4
 obtain ⟨w4,q4,b4,m4⟩:=f4.toSlice Tryz.underlying86
 rw [ZjC] at q4
 rw [Zmi] at b4
 obtain ⟨v4,e4,n4⟩:=Jf (row := (fun x=>[.int .i64 x])) (fun r hr hq=>ZsC hq) m4
 replace b4:v4.length * 8≤140737488351232:=by rw [e4,List.length_map] at b4; exact b4
 have f5:Of Tryz.prog 86 ((([c0,c1,c2,c3,c4,c5]:List AV).drop 5).take (Tryz.prog.cellsOf 86)):=hf 5 _ rfl
 rw [show Tryz.prog.cellsOf 86=1 from by kernel_rfl] at f5
 replace f5:Of Tryz.prog 86 [c5]:=f5
 obtain ⟨w5,q5,b5,m5⟩:=f5.toSlice Tryz.underlying86
 rw [ZjC] at q5
 rw [Zmi] at b5
 obtain ⟨v5,e5,n5⟩:=Jf (row := (fun x=>[.int .i64 x])) (fun r hr hq=>ZsC hq) m5
 replace b5:v5.length * 8≤140737488351232:=by rw [e5,List.length_map] at b5; exact b5
 refine ⟨⟨v0,v1,v2,v3,v4,v5⟩,?_,⟨b0,b1,b2,b3,⟨b4,n4⟩,⟨b5,n5⟩⟩⟩
 have hc:([c0,c1,c2,c3,c4,c5]:List AV)=[c0] ++ [c1] ++ [c2] ++ [c3] ++ [c4] ++ [c5]:=rfl
 rw [hc]
 rw [q0,q1,q2,q3,q4,q5]
 rw [e4,e5]
 rfl
theorem ZqO {cs:List AV}(h:Of Tryz.prog 90 cs):∃ x,cs=Te x∧Zmh x:=by
 obtain ⟨hl,hf⟩:=h.toStruct Tryz.underlying90
 rw [show Tryz.prog.cellsOf 90=13 from by kernel_rfl] at hl
 obtain ⟨c0,r0,rfl,hl0⟩:=JD hl
 obtain ⟨c1,r1,rfl,hl1⟩:=JD hl0
 obtain ⟨c2,r2,rfl,hl2⟩:=JD hl1
 obtain ⟨c3,r3,rfl,hl3⟩:=JD hl2
 obtain ⟨c4,r4,rfl,hl4⟩:=JD hl3
 obtain ⟨c5,r5,rfl,hl5⟩:=JD hl4
 obtain ⟨c6,r6,rfl,hl6⟩:=JD hl5
 obtain ⟨c7,r7,rfl,hl7⟩:=JD hl6
 obtain ⟨c8,r8,rfl,hl8⟩:=JD hl7
 obtain ⟨c9,r9,rfl,hl9⟩:=JD hl8
 obtain ⟨c10,r10,rfl,hl10⟩:=JD hl9
 obtain ⟨c11,r11,rfl,hl11⟩:=JD hl10
 obtain ⟨c12,r12,rfl,hl12⟩:=JD hl11
 obtain rfl:=List.eq_nil_of_length_eq_zero hl12
 have f0:Of Tryz.prog 9 ((([c0,c1,c2,c3,c4,c5,c6,c7,c8,c9,c10,c11,c12]:List AV).drop 0).take (Tryz.prog.cellsOf 9)):=hf 0 _ rfl
 rw [show Tryz.prog.cellsOf 9=1 from by kernel_rfl] at f0
 replace f0:Of Tryz.prog 9 [c0]:=f0
 obtain ⟨v0,q0,b0⟩:=f0.toStr Tryz.underlying9
 have f1:Of Tryz.prog 88 ((([c0,c1,c2,c3,c4,c5,c6,c7,c8,c9,c10,c11,c12]:List AV).drop 1).take (Tryz.prog.cellsOf 88)):=hf 1 _ rfl
 rw [show Tryz.prog.cellsOf 88=6 from by kernel_rfl] at f1
 replace f1:Of Tryz.prog 88 [c1,c2,c3,c4,c5,c6]:=f1
 obtain ⟨v1,q1,b1⟩:=Zm2 f1
 have f2:Of Tryz.prog 88 ((([c0,c1,c2,c3,c4,c5,c6,c7,c8,c9,c10,c11,c12]:List AV).drop 7).take (Tryz.prog.cellsOf 88)):=hf 2 _ rfl
 rw [show Tryz.prog.cellsOf 88=6 from by kernel_rfl] at f2
 replace f2:Of Tryz.prog 88 [c7,c8,c9,c10,c11,c12]:=f2
 obtain ⟨v2,q2,b2⟩:=Zm2 f2
 refine ⟨⟨v0,v1,v2⟩,?_,⟨b0,b1,b2⟩⟩
 have hc:([c0,c1,c2,c3,c4,c5,c6,c7,c8,c9,c10,c11,c12]:List AV)=[c0] ++ [c1,c2,c3,c4,c5,c6] ++ [c7,c8,c9,c10,c11,c12]:=rfl
 rw [hc]
 rw [q0,q1,q2]
 unfold Te; simp only [List.append_assoc,List.cons_append,List.nil_append]
theorem ZgW {cs:List AV}(h:Of Tryz.prog 92 cs):∃ x,cs=Z0 x∧KZ x:=by
 obtain ⟨hl,hf⟩:=h.toStruct Tryz.underlying92
 rw [show Tryz.prog.cellsOf 92=17 from by kernel_rfl] at hl
 obtain ⟨c0,r0,rfl,hl0⟩:=JD hl
 obtain ⟨c1,r1,rfl,hl1⟩:=JD hl0
 obtain ⟨c2,r2,rfl,hl2⟩:=JD hl1
 obtain ⟨c3,r3,rfl,hl3⟩:=JD hl2
 obtain ⟨c4,r4,rfl,hl4⟩:=JD hl3
 obtain ⟨c5,r5,rfl,hl5⟩:=JD hl4
 obtain ⟨c6,r6,rfl,hl6⟩:=JD hl5
 obtain ⟨c7,r7,rfl,hl7⟩:=JD hl6
 obtain ⟨c8,r8,rfl,hl8⟩:=JD hl7
 obtain ⟨c9,r9,rfl,hl9⟩:=JD hl8
 obtain ⟨c10,r10,rfl,hl10⟩:=JD hl9
 obtain ⟨c11,r11,rfl,hl11⟩:=JD hl10
 obtain ⟨c12,r12,rfl,hl12⟩:=JD hl11
 obtain ⟨c13,r13,rfl,hl13⟩:=JD hl12
 obtain ⟨c14,r14,rfl,hl14⟩:=JD hl13
 obtain ⟨c15,r15,rfl,hl15⟩:=JD hl14
 obtain ⟨c16,r16,rfl,hl16⟩:=JD hl15
 obtain rfl:=List.eq_nil_of_length_eq_zero hl16
 have f0:Of Tryz.prog 9 ((([c0,c1,c2,c3,c4,c5,c6,c7,c8,c9,c10,c11,c12,c13,c14,c15,c16]:List AV).drop 0).take (Tryz.prog.cellsOf 9)):=hf 0 _ rfl
 rw [show Tryz.prog.cellsOf 9=1 from by kernel_rfl] at f0
 replace f0:Of Tryz.prog 9 [c0]:=f0
 obtain ⟨v0,q0,b0⟩:=f0.toStr Tryz.underlying9
 have f1:Of Tryz.prog 3 ((([c0,c1,c2,c3,c4,c5,c6,c7,c8,c9,c10,c11,c12,c13,c14,c15,c16]:List AV).drop 1).take (Tryz.prog.cellsOf 3)):=hf 1 _ rfl
 rw [show Tryz.prog.cellsOf 3=1 from by kernel_rfl] at f1
 replace f1:Of Tryz.prog 3 [c1]:=f1
 obtain ⟨v1,q1,b1⟩:=f1.toI64 Tryz.underlying3
 have f2:Of Tryz.prog 84 ((([c0,c1,c2,c3,c4,c5,c6,c7,c8,c9,c10,c11,c12,c13,c14,c15,c16]:List AV).drop 2).take (Tryz.prog.cellsOf 84)):=hf 2 _ rfl
 rw [show Tryz.prog.cellsOf 84=1 from by kernel_rfl] at f2
 replace f2:Of Tryz.prog 84 [c2]:=f2
 obtain ⟨w2,q2,b2,m2⟩:=f2.toSlice Tryz.underlying84
 rw [ZnP] at q2
 rw [ZoE] at b2
 obtain ⟨v2,e2,n2⟩:=Jf (row := U3) (fun r hr hq=>Zp1 hq) m2
 replace b2:v2.length * 16≤140737488351232:=by rw [e2,List.length_map] at b2; exact b2
 have f3:Of Tryz.prog 3 ((([c0,c1,c2,c3,c4,c5,c6,c7,c8,c9,c10,c11,c12,c13,c14,c15,c16]:List AV).drop 3).take (Tryz.prog.cellsOf 3)):=hf 3 _ rfl
 rw [show Tryz.prog.cellsOf 3=1 from by kernel_rfl] at f3
 replace f3:Of Tryz.prog 3 [c3]:=f3
 obtain ⟨v3,q3,b3⟩:=f3.toI64 Tryz.underlying3
 have f4:Of Tryz.prog 90 ((([c0,c1,c2,c3,c4,c5,c6,c7,c8,c9,c10,c11,c12,c13,c14,c15,c16]:List AV).drop 4).take (Tryz.prog.cellsOf 90)):=hf 4 _ rfl
 rw [show Tryz.prog.cellsOf 90=13 from by kernel_rfl] at f4
 replace f4:Of Tryz.prog 90 [c4,c5,c6,c7,c8,c9,c10,c11,c12,c13,c14,c15,c16]:=f4
 obtain ⟨v4,q4,b4⟩:=ZqO f4
 refine ⟨⟨v0,v1,v2,v3,v4⟩,?_,⟨b0,b1,⟨b2,n2⟩,b3,b4⟩⟩
 have hc:([c0,c1,c2,c3,c4,c5,c6,c7,c8,c9,c10,c11,c12,c13,c14,c15,c16]:List AV)=[c0] ++ [c1] ++ [c2] ++ [c3] ++ [c4,c5,c6,c7,c8,c9,c10,c11,c12,c13,c14,c15,c16]:=rfl
 rw [hc]
 rw [q0,q1,q2,q3,q4]
 rw [e2]
 unfold Z0; simp only [List.append_assoc,List.cons_append,List.nil_append]
theorem Zl0 {cs:List AV}(h:Of Tryz.prog 95 cs):∃ x,cs=Yz x∧ZaT x:=by
 obtain ⟨hl,hf⟩:=h.toStruct Tryz.underlying95
 rw [show Tryz.prog.cellsOf 95=3 from by kernel_rfl] at hl
 obtain ⟨c0,r0,rfl,hl0⟩:=JD hl
 obtain ⟨c1,r1,rfl,hl1⟩:=JD hl0
 obtain ⟨c2,r2,rfl,hl2⟩:=JD hl1
 obtain rfl:=List.eq_nil_of_length_eq_zero hl2
 have f0:Of Tryz.prog 9 ((([c0,c1,c2]:List AV).drop 0).take (Tryz.prog.cellsOf 9)):=hf 0 _ rfl
 rw [show Tryz.prog.cellsOf 9=1 from by kernel_rfl] at f0
 replace f0:Of Tryz.prog 9 [c0]:=f0
 obtain ⟨v0,q0,b0⟩:=f0.toStr Tryz.underlying9
 have f1:Of Tryz.prog 3 ((([c0,c1,c2]:List AV).drop 1).take (Tryz.prog.cellsOf 3)):=hf 1 _ rfl
 rw [show Tryz.prog.cellsOf 3=1 from by kernel_rfl] at f1
 replace f1:Of Tryz.prog 3 [c1]:=f1
 obtain ⟨v1,q1,b1⟩:=f1.toI64 Tryz.underlying3
 have f2:Of Tryz.prog 93 ((([c0,c1,c2]:List AV).drop 2).take (Tryz.prog.cellsOf 93)):=hf 2 _ rfl
 rw [show Tryz.prog.cellsOf 93=1 from by kernel_rfl] at f2
 replace f2:Of Tryz.prog 93 [c2]:=f2
 obtain ⟨v2,q2,b2⟩:=f2.toI64 Tryz.underlying93
 refine ⟨⟨v0,v1,v2⟩,?_,⟨b0,b1,b2⟩⟩
 have hc:([c0,c1,c2]:List AV)=[c0] ++ [c1] ++ [c2]:=rfl
 rw [hc]
 rw [q0,q1,q2]
 rfl
theorem Zm1 {cs:List AV}(h:Of Tryz.prog 97 cs):∃ x,cs=WJ x∧Zdg x:=by
 obtain ⟨hl,hf⟩:=h.toStruct Tryz.underlying97
 rw [show Tryz.prog.cellsOf 97=3 from by kernel_rfl] at hl
 obtain ⟨c0,r0,rfl,hl0⟩:=JD hl
 obtain ⟨c1,r1,rfl,hl1⟩:=JD hl0
 obtain ⟨c2,r2,rfl,hl2⟩:=JD hl1
 obtain rfl:=List.eq_nil_of_length_eq_zero hl2
 have f0:Of Tryz.prog 9 ((([c0,c1,c2]:List AV).drop 0).take (Tryz.prog.cellsOf 9)):=hf 0 _ rfl
 rw [show Tryz.prog.cellsOf 9=1 from by kernel_rfl] at f0
 replace f0:Of Tryz.prog 9 [c0]:=f0
 obtain ⟨v0,q0,b0⟩:=f0.toStr Tryz.underlying9
 have f1:Of Tryz.prog 3 ((([c0,c1,c2]:List AV).drop 1).take (Tryz.prog.cellsOf 3)):=hf 1 _ rfl
 rw [show Tryz.prog.cellsOf 3=1 from by kernel_rfl] at f1
 replace f1:Of Tryz.prog 3 [c1]:=f1
 obtain ⟨v1,q1,b1⟩:=f1.toI64 Tryz.underlying3
 have f2:Of Tryz.prog 3 ((([c0,c1,c2]:List AV).drop 2).take (Tryz.prog.cellsOf 3)):=hf 2 _ rfl
 rw [show Tryz.prog.cellsOf 3=1 from by kernel_rfl] at f2
 replace f2:Of Tryz.prog 3 [c2]:=f2
 obtain ⟨v2,q2,b2⟩:=f2.toI64 Tryz.underlying3
 refine ⟨⟨v0,v1,v2⟩,?_,⟨b0,b1,b2⟩⟩
 have hc:([c0,c1,c2]:List AV)=[c0] ++ [c1] ++ [c2]:=rfl
 rw [hc]
 rw [q0,q1,q2]
 rfl
theorem Zn1 {cs:List AV}(h:Of Tryz.prog 103 cs):∃ x,cs=Jv x∧Zjy x:=by
 obtain ⟨hl,hf⟩:=h.toStruct Tryz.underlying103
 rw [show Tryz.prog.cellsOf 103=2 from by kernel_rfl] at hl
 obtain ⟨c0,r0,rfl,hl0⟩:=JD hl
 obtain ⟨c1,r1,rfl,hl1⟩:=JD hl0
 obtain rfl:=List.eq_nil_of_length_eq_zero hl1
 have f0:Of Tryz.prog 9 ((([c0,c1]:List AV).drop 0).take (Tryz.prog.cellsOf 9)):=hf 0 _ rfl
 rw [show Tryz.prog.cellsOf 9=1 from by kernel_rfl] at f0
 replace f0:Of Tryz.prog 9 [c0]:=f0
 obtain ⟨v0,q0,b0⟩:=f0.toStr Tryz.underlying9
 have f1:Of Tryz.prog 67 ((([c0,c1]:List AV).drop 1).take (Tryz.prog.cellsOf 67)):=hf 1 _ rfl
 rw [show Tryz.prog.cellsOf 67=1 from by kernel_rfl] at f1
 replace f1:Of Tryz.prog 67 [c1]:=f1
 obtain ⟨v1,q1,b1⟩:=f1.toI64 Tryz.underlying67
 refine ⟨⟨v0,v1⟩,?_,⟨b0,b1⟩⟩
 have hc:([c0,c1]:List AV)=[c0] ++ [c1]:=rfl
 rw [hc]
 rw [q0,q1]
 rfl
theorem Zkb:∀ (k:Nat) {cs:List AV},SizeOf.sizeOf cs≤k→Of Tryz.prog 179 cs→∃ x,cs=QO x∧JH x
 | 0,cs,hk,h=>by
  obtain ⟨hl,_⟩:=h.toStruct Tryz.underlying179
  rw [show Tryz.prog.cellsOf 179=4 from by kernel_rfl] at hl
  cases cs with
  | nil=>simp at hl
  | cons a r=>simp at hk
 | k + 1,cs,hk,h=>by
  obtain ⟨hl,hf⟩:=h.toStruct Tryz.underlying179
  rw [show Tryz.prog.cellsOf 179=4 from by kernel_rfl] at hl
  obtain ⟨c0,r0,rfl,hl0⟩:=JD hl
  obtain ⟨c1,r1,rfl,hl1⟩:=JD hl0
  obtain ⟨c2,r2,rfl,hl2⟩:=JD hl1
  obtain ⟨c3,r3,rfl,hl3⟩:=JD hl2
  obtain rfl:=List.eq_nil_of_length_eq_zero hl3
  have f0:Of Tryz.prog 176 ((([c0,c1,c2,c3]:List AV).drop 0).take (Tryz.prog.cellsOf 176)):=hf 0 _ rfl
  rw [show Tryz.prog.cellsOf 176=1 from by kernel_rfl] at f0
  replace f0:Of Tryz.prog 176 [c0]:=f0
  obtain ⟨v0,q0,b0⟩:=f0.toI64 Tryz.underlying176
  have f1:Of Tryz.prog 9 ((([c0,c1,c2,c3]:List AV).drop 1).take (Tryz.prog.cellsOf 9)):=hf 1 _ rfl
  rw [show Tryz.prog.cellsOf 9=1 from by kernel_rfl] at f1
  replace f1:Of Tryz.prog 9 [c1]:=f1
  obtain ⟨v1,q1,b1⟩:=f1.toStr Tryz.underlying9
  have f2:Of Tryz.prog 3 ((([c0,c1,c2,c3]:List AV).drop 2).take (Tryz.prog.cellsOf 3)):=hf 2 _ rfl
  rw [show Tryz.prog.cellsOf 3=1 from by kernel_rfl] at f2
  replace f2:Of Tryz.prog 3 [c2]:=f2
  obtain ⟨v2,q2,b2⟩:=f2.toI64 Tryz.underlying3
  have f3:Of Tryz.prog 177 ((([c0,c1,c2,c3]:List AV).drop 3).take (Tryz.prog.cellsOf 177)):=hf 3 _ rfl
  rw [show Tryz.prog.cellsOf 177=1 from by kernel_rfl] at f3
  replace f3:Of Tryz.prog 177 [c3]:=f3
  obtain ⟨w3,q3,b3,m3⟩:=f3.toSlice Tryz.underlying177
  rw [ZiU] at q3
  rw [ZkG] at b3
  obtain ⟨v3,e3,n3⟩:=Jf (row := QO) (ok := JH) (fun r hr hq=>Zkb k (Zpm (w := 4) (rows := w3) (by simp [(List.cons.inj q3).1]) hr hk) hq) m3
  replace b3:v3.length * 56≤140737488351232:=by rw [e3,List.length_map] at b3; exact b3
  refine ⟨⟨v0,v1,v2,v3⟩,?_,⟨_,b0,b1,b2,b3,n3⟩⟩
  have hc:([c0,c1,c2,c3]:List AV)=[c0] ++ [c1] ++ [c2] ++ [c3]:=rfl
  rw [hc]
  rw [q0,q1,q2,q3]
  rw [e3]
  rw [JF]; rfl
theorem Zm4:∀ (k:Nat) {cs:List AV},SizeOf.sizeOf cs≤k→Of Tryz.prog 181 cs→∃ x,cs=QT x∧VO x
 | 0,cs,hk,h=>by
  obtain ⟨hl,_⟩:=h.toStruct Tryz.underlying181
  rw [show Tryz.prog.cellsOf 181=21 from by kernel_rfl] at hl
  cases cs with
  | nil=>simp at hl
  | cons a r=>simp at hk
 | k + 1,cs,hk,h=>by
  obtain ⟨hl,hf⟩:=h.toStruct Tryz.underlying181
  rw [show Tryz.prog.cellsOf 181=21 from by kernel_rfl] at hl
  obtain ⟨c0,r0,rfl,hl0⟩:=JD hl
  obtain ⟨c1,r1,rfl,hl1⟩:=JD hl0
  obtain ⟨c2,r2,rfl,hl2⟩:=JD hl1
  obtain ⟨c3,r3,rfl,hl3⟩:=JD hl2
  obtain ⟨c4,r4,rfl,hl4⟩:=JD hl3
  obtain ⟨c5,r5,rfl,hl5⟩:=JD hl4
  obtain ⟨c6,r6,rfl,hl6⟩:=JD hl5
  obtain ⟨c7,r7,rfl,hl7⟩:=JD hl6
  obtain ⟨c8,r8,rfl,hl8⟩:=JD hl7
  obtain ⟨c9,r9,rfl,hl9⟩:=JD hl8
  obtain ⟨c10,r10,rfl,hl10⟩:=JD hl9
  obtain ⟨c11,r11,rfl,hl11⟩:=JD hl10
  obtain ⟨c12,r12,rfl,hl12⟩:=JD hl11
  obtain ⟨c13,r13,rfl,hl13⟩:=JD hl12
  obtain ⟨c14,r14,rfl,hl14⟩:=JD hl13
  obtain ⟨c15,r15,rfl,hl15⟩:=JD hl14
  obtain ⟨c16,r16,rfl,hl16⟩:=JD hl15
  obtain ⟨c17,r17,rfl,hl17⟩:=JD hl16
  obtain ⟨c18,r18,rfl,hl18⟩:=JD hl17
  obtain ⟨c19,r19,rfl,hl19⟩:=JD hl18
  obtain ⟨c20,r20,rfl,hl20⟩:=JD hl19
  obtain rfl:=List.eq_nil_of_length_eq_zero hl20
  have f0:Of Tryz.prog 175 ((([c0,c1,c2,c3,c4,c5,c6,c7,c8,c9,c10,c11,c12,c13,c14,c15,c16,c17,c18,c19,c20]:List AV).drop 0).take (Tryz.prog.cellsOf 175)):=hf 0 _ rfl
  rw [show Tryz.prog.cellsOf 175=1 from by kernel_rfl] at f0
  replace f0:Of Tryz.prog 175 [c0]:=f0
  obtain ⟨v0,q0,b0⟩:=f0.toI64 Tryz.underlying175
  have f1:Of Tryz.prog 9 ((([c0,c1,c2,c3,c4,c5,c6,c7,c8,c9,c10,c11,c12,c13,c14,c15,c16,c17,c18,c19,c20]:List AV).drop 1).take (Tryz.prog.cellsOf 9)):=hf 1 _ rfl
  rw [show Tryz.prog.cellsOf 9=1 from by kernel_rfl] at f1
  replace f1:Of Tryz.prog 9 [c1]:=f1
  obtain ⟨v1,q1,b1⟩:=f1.toStr Tryz.underlying9
  have f2:Of Tryz.prog 9 ((([c0,c1,c2,c3,c4,c5,c6,c7,c8,c9,c10,c11,c12,c13,c14,c15,c16,c17,c18,c19,c20]:List AV).drop 2).take (Tryz.prog.cellsOf 9)):=hf 2 _ rfl
  rw [show Tryz.prog.cellsOf 9=1 from by kernel_rfl] at f2
  replace f2:Of Tryz.prog 9 [c2]:=f2
  obtain ⟨v2,q2,b2⟩:=f2.toStr Tryz.underlying9
  have f3:Of Tryz.prog 179 ((([c0,c1,c2,c3,c4,c5,c6,c7,c8,c9,c10,c11,c12,c13,c14,c15,c16,c17,c18,c19,c20]:List AV).drop 3).take (Tryz.prog.cellsOf 179)):=hf 3 _ rfl
  rw [show Tryz.prog.cellsOf 179=4 from by kernel_rfl] at f3
  replace f3:Of Tryz.prog 179 [c3,c4,c5,c6]:=f3
  obtain ⟨v3,q3,b3⟩:=Zkb _ (Nat.le_refl _) f3
  have f4:Of Tryz.prog 179 ((([c0,c1,c2,c3,c4,c5,c6,c7,c8,c9,c10,c11,c12,c13,c14,c15,c16,c17,c18,c19,c20]:List AV).drop 7).take (Tryz.prog.cellsOf 179)):=hf 4 _ rfl
  rw [show Tryz.prog.cellsOf 179=4 from by kernel_rfl] at f4
  replace f4:Of Tryz.prog 179 [c7,c8,c9,c10]:=f4
  obtain ⟨v4,q4,b4⟩:=Zkb _ (Nat.le_refl _) f4
  have f5:Of Tryz.prog 177 ((([c0,c1,c2,c3,c4,c5,c6,c7,c8,c9,c10,c11,c12,c13,c14,c15,c16,c17,c18,c19,c20]:List AV).drop 11).take (Tryz.prog.cellsOf 177)):=hf 5 _ rfl
  rw [show Tryz.prog.cellsOf 177=1 from by kernel_rfl] at f5
  replace f5:Of Tryz.prog 177 [c11]:=f5
  obtain ⟨w5,q5,b5,m5⟩:=f5.toSlice Tryz.underlying177
  rw [ZiU] at q5
  rw [ZkG] at b5
  obtain ⟨v5,e5,n5⟩:=Jf (row := QO) (ok := JH) (fun r hr hq=>Zkb _ (Nat.le_refl _) hq) m5
  replace b5:v5.length * 56≤140737488351232:=by rw [e5,List.length_map] at b5; exact b5
  have f6:Of Tryz.prog 88 ((([c0,c1,c2,c3,c4,c5,c6,c7,c8,c9,c10,c11,c12,c13,c14,c15,c16,c17,c18,c19,c20]:List AV).drop 12).take (Tryz.prog.cellsOf 88)):=hf 6 _ rfl
  rw [show Tryz.prog.cellsOf 88=6 from by kernel_rfl] at f6
  replace f6:Of Tryz.prog 88 [c12,c13,c14,c15,c16,c17]:=f6
  obtain ⟨v6,q6,b6⟩:=Zm2 f6
  have f7:Of Tryz.prog 4 ((([c0,c1,c2,c3,c4,c5,c6,c7,c8,c9,c10,c11,c12,c13,c14,c15,c16,c17,c18,c19,c20]:List AV).drop 18).take (Tryz.prog.cellsOf 4)):=hf 7 _ rfl
  rw [show Tryz.prog.cellsOf 4=1 from by kernel_rfl] at f7
  replace f7:Of Tryz.prog 4 [c18]:=f7
  obtain ⟨v7,q7⟩:=f7.toBool Tryz.underlying4
  have b7:True:=trivial
  have f8:Of Tryz.prog 77 ((([c0,c1,c2,c3,c4,c5,c6,c7,c8,c9,c10,c11,c12,c13,c14,c15,c16,c17,c18,c19,c20]:List AV).drop 19).take (Tryz.prog.cellsOf 77)):=hf 8 _ rfl
  rw [show Tryz.prog.cellsOf 77=1 from by kernel_rfl] at f8
  replace f8:Of Tryz.prog 77 [c19]:=f8
  obtain ⟨w8,q8,b8,m8⟩:=f8.toSlice Tryz.underlying77
  rw [Zdn] at q8
  rw [ZfB] at b8
  obtain ⟨v8,e8,n8⟩:=Jf (row := QT) (ok := VO) (fun r hr hq=>Zm4 k (Zpm (w := 21) (rows := w8) (by simp [(List.cons.inj q8).1]) hr hk) hq) m8
  replace b8:v8.length * 312≤140737488351232:=by rw [e8,List.length_map] at b8; exact b8
  have f9:Of Tryz.prog 77 ((([c0,c1,c2,c3,c4,c5,c6,c7,c8,c9,c10,c11,c12,c13,c14,c15,c16,c17,c18,c19,c20]:List AV).drop 20).take (Tryz.prog.cellsOf 77)):=hf 9 _ rfl
  rw [show Tryz.prog.cellsOf 77=1 from by kernel_rfl] at f9
  replace f9:Of Tryz.prog 77 [c20]:=f9
  obtain ⟨w9,q9,b9,m9⟩:=f9.toSlice Tryz.underlying77
  rw [Zdn] at q9
  rw [ZfB] at b9
  obtain ⟨v9,e9,n9⟩:=Jf (row := QT) (ok := VO) (fun r hr hq=>Zm4 k (Zpm (w := 21) (rows := w9) (by simp [(List.cons.inj q9).1]) hr hk) hq) m9
  replace b9:v9.length * 312≤140737488351232:=by rw [e9,List.length_map] at b9; exact b9
  refine ⟨⟨v0,v1,v2,v3,v4,v5,v6,v7,v8,v9⟩,?_,⟨_,b0,b1,b2,b3,b4,b5,n5,b6,b7,b8,n8,b9,n9⟩⟩
  have hc:([c0,c1,c2,c3,c4,c5,c6,c7,c8,c9,c10,c11,c12,c13,c14,c15,c16,c17,c18,c19,c20]:List AV)=[c0] ++ [c1] ++ [c2] ++ [c3,c4,c5,c6] ++ [c7,c8,c9,c10] ++ [c11] ++ [c12,c13,c14,c15,c16,c17] ++ [c18] ++ [c19] ++ [c20]:=rfl
  rw [hc]
  rw [q0,q1,q2,q3,q4,q5,q6,q7,q8,q9]
  rw [e5,e8,e9]
  rw [OT]; simp only [List.append_assoc,List.cons_append,List.nil_append]
theorem Zod {cs:List AV}(h:Of Tryz.prog 79 cs):∃ x,cs=Y6 x∧NJ x:=by
 obtain ⟨hl,hf⟩:=h.toStruct Tryz.underlying79
 rw [show Tryz.prog.cellsOf 79=4 from by kernel_rfl] at hl
 obtain ⟨c0,r0,rfl,hl0⟩:=JD hl
 obtain ⟨c1,r1,rfl,hl1⟩:=JD hl0
 obtain ⟨c2,r2,rfl,hl2⟩:=JD hl1
 obtain ⟨c3,r3,rfl,hl3⟩:=JD hl2
 obtain rfl:=List.eq_nil_of_length_eq_zero hl3
 have f0:Of Tryz.prog 9 ((([c0,c1,c2,c3]:List AV).drop 0).take (Tryz.prog.cellsOf 9)):=hf 0 _ rfl
 rw [show Tryz.prog.cellsOf 9=1 from by kernel_rfl] at f0
 replace f0:Of Tryz.prog 9 [c0]:=f0
 obtain ⟨v0,q0,b0⟩:=f0.toStr Tryz.underlying9
 have f1:Of Tryz.prog 76 ((([c0,c1,c2,c3]:List AV).drop 1).take (Tryz.prog.cellsOf 76)):=hf 1 _ rfl
 rw [show Tryz.prog.cellsOf 76=1 from by kernel_rfl] at f1
 replace f1:Of Tryz.prog 76 [c1]:=f1
 obtain ⟨w1,q1,b1,m1⟩:=f1.toSlice Tryz.underlying76
 rw [ZiT] at q1
 rw [ZkF] at b1
 obtain ⟨v1,e1,n1⟩:=Jf (row := Jv) (fun r hr hq=>Zn1 hq) m1
 replace b1:v1.length * 24≤140737488351232:=by rw [e1,List.length_map] at b1; exact b1
 have f2:Of Tryz.prog 76 ((([c0,c1,c2,c3]:List AV).drop 2).take (Tryz.prog.cellsOf 76)):=hf 2 _ rfl
 rw [show Tryz.prog.cellsOf 76=1 from by kernel_rfl] at f2
 replace f2:Of Tryz.prog 76 [c2]:=f2
 obtain ⟨w2,q2,b2,m2⟩:=f2.toSlice Tryz.underlying76
 rw [ZiT] at q2
 rw [ZkF] at b2
 obtain ⟨v2,e2,n2⟩:=Jf (row := Jv) (fun r hr hq=>Zn1 hq) m2
 replace b2:v2.length * 24≤140737488351232:=by rw [e2,List.length_map] at b2; exact b2
 have f3:Of Tryz.prog 77 ((([c0,c1,c2,c3]:List AV).drop 3).take (Tryz.prog.cellsOf 77)):=hf 3 _ rfl
 rw [show Tryz.prog.cellsOf 77=1 from by kernel_rfl] at f3
 replace f3:Of Tryz.prog 77 [c3]:=f3
 obtain ⟨w3,q3,b3,m3⟩:=f3.toSlice Tryz.underlying77
 rw [Zdn] at q3
 rw [ZfB] at b3
 obtain ⟨v3,e3,n3⟩:=Jf (row := QT) (ok := VO) (fun r hr hq=>Zm4 _ (Nat.le_refl _) hq) m3
 replace b3:v3.length * 312≤140737488351232:=by rw [e3,List.length_map] at b3; exact b3
 refine ⟨⟨v0,v1,v2,v3⟩,?_,⟨b0,⟨b1,n1⟩,⟨b2,n2⟩,⟨b3,n3⟩⟩⟩
 have hc:([c0,c1,c2,c3]:List AV)=[c0] ++ [c1] ++ [c2] ++ [c3]:=rfl
 rw [hc]
 rw [q0,q1,q2,q3]
 rw [e1,e2,e3]
 rfl
theorem ZqQ {cs:List AV}(h:Of Tryz.prog 105 cs):∃ x,cs=Je x∧AZ x:=by
 obtain ⟨hl,hf⟩:=h.toStruct Tryz.underlying105
 rw [show Tryz.prog.cellsOf 105=5 from by kernel_rfl] at hl
 obtain ⟨c0,r0,rfl,hl0⟩:=JD hl
 obtain ⟨c1,r1,rfl,hl1⟩:=JD hl0
 obtain ⟨c2,r2,rfl,hl2⟩:=JD hl1
 obtain ⟨c3,r3,rfl,hl3⟩:=JD hl2
 obtain ⟨c4,r4,rfl,hl4⟩:=JD hl3
 obtain rfl:=List.eq_nil_of_length_eq_zero hl4
 have f0:Of Tryz.prog 9 ((([c0,c1,c2,c3,c4]:List AV).drop 0).take (Tryz.prog.cellsOf 9)):=hf 0 _ rfl
 rw [show Tryz.prog.cellsOf 9=1 from by kernel_rfl] at f0
 replace f0:Of Tryz.prog 9 [c0]:=f0
 obtain ⟨v0,q0,b0⟩:=f0.toStr Tryz.underlying9
 have f1:Of Tryz.prog 86 ((([c0,c1,c2,c3,c4]:List AV).drop 1).take (Tryz.prog.cellsOf 86)):=hf 1 _ rfl
 rw [show Tryz.prog.cellsOf 86=1 from by kernel_rfl] at f1
 replace f1:Of Tryz.prog 86 [c1]:=f1
 obtain ⟨w1,q1,b1,m1⟩:=f1.toSlice Tryz.underlying86
 rw [ZjC] at q1
 rw [Zmi] at b1
 obtain ⟨v1,e1,n1⟩:=Jf (row := (fun x=>[.int .i64 x])) (fun r hr hq=>ZsC hq) m1
 replace b1:v1.length * 8≤140737488351232:=by rw [e1,List.length_map] at b1; exact b1
 have f2:Of Tryz.prog 3 ((([c0,c1,c2,c3,c4]:List AV).drop 2).take (Tryz.prog.cellsOf 3)):=hf 2 _ rfl
 rw [show Tryz.prog.cellsOf 3=1 from by kernel_rfl] at f2
 replace f2:Of Tryz.prog 3 [c2]:=f2
 obtain ⟨v2,q2,b2⟩:=f2.toI64 Tryz.underlying3
 have f3:Of Tryz.prog 3 ((([c0,c1,c2,c3,c4]:List AV).drop 3).take (Tryz.prog.cellsOf 3)):=hf 3 _ rfl
 rw [show Tryz.prog.cellsOf 3=1 from by kernel_rfl] at f3
 replace f3:Of Tryz.prog 3 [c3]:=f3
 obtain ⟨v3,q3,b3⟩:=f3.toI64 Tryz.underlying3
 have f4:Of Tryz.prog 3 ((([c0,c1,c2,c3,c4]:List AV).drop 4).take (Tryz.prog.cellsOf 3)):=hf 4 _ rfl
 rw [show Tryz.prog.cellsOf 3=1 from by kernel_rfl] at f4
 replace f4:Of Tryz.prog 3 [c4]:=f4
 obtain ⟨v4,q4,b4⟩:=f4.toI64 Tryz.underlying3
 refine ⟨⟨v0,v1,v2,v3,v4⟩,?_,⟨b0,⟨b1,n1⟩,b2,b3,b4⟩⟩
 have hc:([c0,c1,c2,c3,c4]:List AV)=[c0] ++ [c1] ++ [c2] ++ [c3] ++ [c4]:=rfl
 rw [hc]
 rw [q0,q1,q2,q3,q4]
 rw [e1]
 rfl
theorem ZsB {cs:List AV}(h:Of Tryz.prog 54 cs):∃ x,cs=Tk x∧ZrI x:=by
 obtain ⟨hl,hf⟩:=h.toStruct Tryz.underlying54
 rw [show Tryz.prog.cellsOf 54=3 from by kernel_rfl] at hl
 obtain ⟨c0,r0,rfl,hl0⟩:=JD hl
 obtain ⟨c1,r1,rfl,hl1⟩:=JD hl0
 obtain ⟨c2,r2,rfl,hl2⟩:=JD hl1
 obtain rfl:=List.eq_nil_of_length_eq_zero hl2
 have f0:Of Tryz.prog 3 ((([c0,c1,c2]:List AV).drop 0).take (Tryz.prog.cellsOf 3)):=hf 0 _ rfl
 rw [show Tryz.prog.cellsOf 3=1 from by kernel_rfl] at f0
 replace f0:Of Tryz.prog 3 [c0]:=f0
 obtain ⟨v0,q0,b0⟩:=f0.toI64 Tryz.underlying3
 have f1:Of Tryz.prog 9 ((([c0,c1,c2]:List AV).drop 1).take (Tryz.prog.cellsOf 9)):=hf 1 _ rfl
 rw [show Tryz.prog.cellsOf 9=1 from by kernel_rfl] at f1
 replace f1:Of Tryz.prog 9 [c1]:=f1
 obtain ⟨v1,q1,b1⟩:=f1.toStr Tryz.underlying9
 have f2:Of Tryz.prog 9 ((([c0,c1,c2]:List AV).drop 2).take (Tryz.prog.cellsOf 9)):=hf 2 _ rfl
 rw [show Tryz.prog.cellsOf 9=1 from by kernel_rfl] at f2
 replace f2:Of Tryz.prog 9 [c2]:=f2
 obtain ⟨v2,q2,b2⟩:=f2.toStr Tryz.underlying9
 refine ⟨⟨v0,v1,v2⟩,?_,⟨b0,b1,b2⟩⟩
 have hc:([c0,c1,c2]:List AV)=[c0] ++ [c1] ++ [c2]:=rfl
 rw [hc]
 rw [q0,q1,q2]
 rfl
theorem ZtS {cs:List AV}(h:Of Tryz.prog 57 cs):∃ x,cs=Av x∧ZnM x:=by
 obtain ⟨hl,hf⟩:=h.toStruct Tryz.underlying57
 rw [show Tryz.prog.cellsOf 57=3 from by kernel_rfl] at hl
 obtain ⟨c0,r0,rfl,hl0⟩:=JD hl
 obtain ⟨c1,r1,rfl,hl1⟩:=JD hl0
 obtain ⟨c2,r2,rfl,hl2⟩:=JD hl1
 obtain rfl:=List.eq_nil_of_length_eq_zero hl2
 have f0:Of Tryz.prog 9 ((([c0,c1,c2]:List AV).drop 0).take (Tryz.prog.cellsOf 9)):=hf 0 _ rfl
 rw [show Tryz.prog.cellsOf 9=1 from by kernel_rfl] at f0
 replace f0:Of Tryz.prog 9 [c0]:=f0
 obtain ⟨v0,q0,b0⟩:=f0.toStr Tryz.underlying9
 have f1:Of Tryz.prog 55 ((([c0,c1,c2]:List AV).drop 1).take (Tryz.prog.cellsOf 55)):=hf 1 _ rfl
 rw [show Tryz.prog.cellsOf 55=1 from by kernel_rfl] at f1
 replace f1:Of Tryz.prog 55 [c1]:=f1
 obtain ⟨w1,q1,b1,m1⟩:=f1.toSlice Tryz.underlying55
 rw [ZoL] at q1
 rw [Zqv] at b1
 obtain ⟨v1,e1,n1⟩:=Jf (row := Tk) (fun r hr hq=>ZsB hq) m1
 replace b1:v1.length * 40≤140737488351232:=by rw [e1,List.length_map] at b1; exact b1
 have f2:Of Tryz.prog 3 ((([c0,c1,c2]:List AV).drop 2).take (Tryz.prog.cellsOf 3)):=hf 2 _ rfl
 rw [show Tryz.prog.cellsOf 3=1 from by kernel_rfl] at f2
 replace f2:Of Tryz.prog 3 [c2]:=f2
 obtain ⟨v2,q2,b2⟩:=f2.toI64 Tryz.underlying3
 refine ⟨⟨v0,v1,v2⟩,?_,⟨b0,⟨b1,n1⟩,b2⟩⟩
 have hc:([c0,c1,c2]:List AV)=[c0] ++ [c1] ++ [c2]:=rfl
 rw [hc]
 rw [q0,q1,q2]
 rw [e1]
 rfl
theorem Zm3 {cs:List AV}(h:Of Tryz.prog 42 cs):∃ x,cs=Zh x∧YA x:=by
 obtain ⟨hl,hf⟩:=h.toStruct Tryz.underlying42
 rw [show Tryz.prog.cellsOf 42=13 from by kernel_rfl] at hl
 obtain ⟨c0,r0,rfl,hl0⟩:=JD hl
 obtain ⟨c1,r1,rfl,hl1⟩:=JD hl0
 obtain ⟨c2,r2,rfl,hl2⟩:=JD hl1
 obtain ⟨c3,r3,rfl,hl3⟩:=JD hl2
 obtain ⟨c4,r4,rfl,hl4⟩:=JD hl3
 obtain ⟨c5,r5,rfl,hl5⟩:=JD hl4
 obtain ⟨c6,r6,rfl,hl6⟩:=JD hl5
 obtain ⟨c7,r7,rfl,hl7⟩:=JD hl6
 obtain ⟨c8,r8,rfl,hl8⟩:=JD hl7
 obtain ⟨c9,r9,rfl,hl9⟩:=JD hl8
 obtain ⟨c10,r10,rfl,hl10⟩:=JD hl9
 obtain ⟨c11,r11,rfl,hl11⟩:=JD hl10
 obtain ⟨c12,r12,rfl,hl12⟩:=JD hl11
 obtain rfl:=List.eq_nil_of_length_eq_zero hl12
 have f0:Of Tryz.prog 9 ((([c0,c1,c2,c3,c4,c5,c6,c7,c8,c9,c10,c11,c12]:List AV).drop 0).take (Tryz.prog.cellsOf 9)):=hf 0 _ rfl
 rw [show Tryz.prog.cellsOf 9=1 from by kernel_rfl] at f0
 replace f0:Of Tryz.prog 9 [c0]:=f0
 obtain ⟨v0,q0,b0⟩:=f0.toStr Tryz.underlying9
 have f1:Of Tryz.prog 22 ((([c0,c1,c2,c3,c4,c5,c6,c7,c8,c9,c10,c11,c12]:List AV).drop 1).take (Tryz.prog.cellsOf 22)):=hf 1 _ rfl
 rw [show Tryz.prog.cellsOf 22=1 from by kernel_rfl] at f1
 replace f1:Of Tryz.prog 22 [c1]:=f1
 obtain ⟨w1,q1,b1,m1⟩:=f1.toSlice Tryz.underlying22
 rw [ZkT] at q1
 rw [Znf] at b1
 obtain ⟨v1,e1,n1⟩:=Jf (row := Vw) (fun r hr hq=>Zn2 hq) m1
 replace b1:v1.length * 32≤140737488351232:=by rw [e1,List.length_map] at b1; exact b1
 have f2:Of Tryz.prog 34 ((([c0,c1,c2,c3,c4,c5,c6,c7,c8,c9,c10,c11,c12]:List AV).drop 2).take (Tryz.prog.cellsOf 34)):=hf 2 _ rfl
 rw [show Tryz.prog.cellsOf 34=1 from by kernel_rfl] at f2
 replace f2:Of Tryz.prog 34 [c2]:=f2
 obtain ⟨w2,q2,b2,m2⟩:=f2.toSlice Tryz.underlying34
 rw [ZoO] at q2
 rw [Zqy] at b2
 obtain ⟨v2,e2,n2⟩:=Jf (row := Z0) (fun r hr hq=>ZgW hq) m2
 replace b2:v2.length * 232≤140737488351232:=by rw [e2,List.length_map] at b2; exact b2
 have f3:Of Tryz.prog 35 ((([c0,c1,c2,c3,c4,c5,c6,c7,c8,c9,c10,c11,c12]:List AV).drop 3).take (Tryz.prog.cellsOf 35)):=hf 3 _ rfl
 rw [show Tryz.prog.cellsOf 35=1 from by kernel_rfl] at f3
 replace f3:Of Tryz.prog 35 [c3]:=f3
 obtain ⟨w3,q3,b3,m3⟩:=f3.toSlice Tryz.underlying35
 rw [ZoP] at q3
 rw [Zqz] at b3
 obtain ⟨v3,e3,n3⟩:=Jf (row := Yz) (fun r hr hq=>Zl0 hq) m3
 replace b3:v3.length * 32≤140737488351232:=by rw [e3,List.length_map] at b3; exact b3
 have f4:Of Tryz.prog 36 ((([c0,c1,c2,c3,c4,c5,c6,c7,c8,c9,c10,c11,c12]:List AV).drop 4).take (Tryz.prog.cellsOf 36)):=hf 4 _ rfl
 rw [show Tryz.prog.cellsOf 36=1 from by kernel_rfl] at f4
 replace f4:Of Tryz.prog 36 [c4]:=f4
 obtain ⟨w4,q4,b4,m4⟩:=f4.toSlice Tryz.underlying36
 rw [ZoQ] at q4
 rw [Zq0] at b4
 obtain ⟨v4,e4,n4⟩:=Jf (row := WJ) (fun r hr hq=>Zm1 hq) m4
 replace b4:v4.length * 32≤140737488351232:=by rw [e4,List.length_map] at b4; exact b4
 have f5:Of Tryz.prog 37 ((([c0,c1,c2,c3,c4,c5,c6,c7,c8,c9,c10,c11,c12]:List AV).drop 5).take (Tryz.prog.cellsOf 37)):=hf 5 _ rfl
 rw [show Tryz.prog.cellsOf 37=1 from by kernel_rfl] at f5
 replace f5:Of Tryz.prog 37 [c5]:=f5
 obtain ⟨w5,q5,b5,m5⟩:=f5.toSlice Tryz.underlying37
 rw [ZbY] at q5
 rw [ZfC] at b5
 obtain ⟨v5,e5,n5⟩:=Jf (row := (fun x=>[.str x])) (fun r hr hq=>Zp2 hq) m5
 replace b5:v5.length * 16≤140737488351232:=by rw [e5,List.length_map] at b5; exact b5
 have f6:Of Tryz.prog 37 ((([c0,c1,c2,c3,c4,c5,c6,c7,c8,c9,c10,c11,c12]:List AV).drop 6).take (Tryz.prog.cellsOf 37)):=hf 6 _ rfl
 rw [show Tryz.prog.cellsOf 37=1 from by kernel_rfl] at f6
 replace f6:Of Tryz.prog 37 [c6]:=f6
 obtain ⟨w6,q6,b6,m6⟩:=f6.toSlice Tryz.underlying37
 rw [ZbY] at q6
 rw [ZfC] at b6
 obtain ⟨v6,e6,n6⟩:=Jf (row := (fun x=>[.str x])) (fun r hr hq=>Zp2 hq) m6
 replace b6:v6.length * 16≤140737488351232:=by rw [e6,List.length_map] at b6; exact b6
 have f7:Of Tryz.prog 37 ((([c0,c1,c2,c3,c4,c5,c6,c7,c8,c9,c10,c11,c12]:List AV).drop 7).take (Tryz.prog.cellsOf 37)):=hf 7 _ rfl
 rw [show Tryz.prog.cellsOf 37=1 from by kernel_rfl] at f7
 replace f7:Of Tryz.prog 37 [c7]:=f7
 obtain ⟨w7,q7,b7,m7⟩:=f7.toSlice Tryz.underlying37
 rw [ZbY] at q7
 rw [ZfC] at b7
 obtain ⟨v7,e7,n7⟩:=Jf (row := (fun x=>[.str x])) (fun r hr hq=>Zp2 hq) m7
 replace b7:v7.length * 16≤140737488351232:=by rw [e7,List.length_map] at b7; exact b7
 have f8:Of Tryz.prog 37 ((([c0,c1,c2,c3,c4,c5,c6,c7,c8,c9,c10,c11,c12]:List AV).drop 8).take (Tryz.prog.cellsOf 37)):=hf 8 _ rfl
 rw [show Tryz.prog.cellsOf 37=1 from by kernel_rfl] at f8
 replace f8:Of Tryz.prog 37 [c8]:=f8
 obtain ⟨w8,q8,b8,m8⟩:=f8.toSlice Tryz.underlying37
 rw [ZbY] at q8
 rw [ZfC] at b8
 obtain ⟨v8,e8,n8⟩:=Jf (row := (fun x=>[.str x])) (fun r hr hq=>Zp2 hq) m8
 replace b8:v8.length * 16≤140737488351232:=by rw [e8,List.length_map] at b8; exact b8
 have f9:Of Tryz.prog 37 ((([c0,c1,c2,c3,c4,c5,c6,c7,c8,c9,c10,c11,c12]:List AV).drop 9).take (Tryz.prog.cellsOf 37)):=hf 9 _ rfl
 rw [show Tryz.prog.cellsOf 37=1 from by kernel_rfl] at f9
 replace f9:Of Tryz.prog 37 [c9]:=f9
 obtain ⟨w9,q9,b9,m9⟩:=f9.toSlice Tryz.underlying37
 rw [ZbY] at q9
 rw [ZfC] at b9
 obtain ⟨v9,e9,n9⟩:=Jf (row := (fun x=>[.str x])) (fun r hr hq=>Zp2 hq) m9
 replace b9:v9.length * 16≤140737488351232:=by rw [e9,List.length_map] at b9; exact b9
 have f10:Of Tryz.prog 38 ((([c0,c1,c2,c3,c4,c5,c6,c7,c8,c9,c10,c11,c12]:List AV).drop 10).take (Tryz.prog.cellsOf 38)):=hf 10 _ rfl
 rw [show Tryz.prog.cellsOf 38=1 from by kernel_rfl] at f10
 replace f10:Of Tryz.prog 38 [c10]:=f10
 obtain ⟨w10,q10,b10,m10⟩:=f10.toSlice Tryz.underlying38
 rw [ZoN] at q10
 rw [Zqx] at b10
 obtain ⟨v10,e10,n10⟩:=Jf (row := Y6) (fun r hr hq=>Zod hq) m10
 replace b10:v10.length * 88≤140737488351232:=by rw [e10,List.length_map] at b10; exact b10
 have f11:Of Tryz.prog 39 ((([c0,c1,c2,c3,c4,c5,c6,c7,c8,c9,c10,c11,c12]:List AV).drop 11).take (Tryz.prog.cellsOf 39)):=hf 11 _ rfl
 rw [show Tryz.prog.cellsOf 39=1 from by kernel_rfl] at f11
 replace f11:Of Tryz.prog 39 [c11]:=f11
 obtain ⟨w11,q11,b11,m11⟩:=f11.toSlice Tryz.underlying39
 rw [ZnO] at q11
 rw [ZoD] at b11
 obtain ⟨v11,e11,n11⟩:=Jf (row := Je) (fun r hr hq=>ZqQ hq) m11
 replace b11:v11.length * 64≤140737488351232:=by rw [e11,List.length_map] at b11; exact b11
 have f12:Of Tryz.prog 40 ((([c0,c1,c2,c3,c4,c5,c6,c7,c8,c9,c10,c11,c12]:List AV).drop 12).take (Tryz.prog.cellsOf 40)):=hf 12 _ rfl
 rw [show Tryz.prog.cellsOf 40=1 from by kernel_rfl] at f12
 replace f12:Of Tryz.prog 40 [c12]:=f12
 obtain ⟨w12,q12,b12,m12⟩:=f12.toSlice Tryz.underlying40
 rw [ZoM] at q12
 rw [Zqw] at b12
 obtain ⟨v12,e12,n12⟩:=Jf (row := Av) (fun r hr hq=>ZtS hq) m12
 replace b12:v12.length * 48≤140737488351232:=by rw [e12,List.length_map] at b12; exact b12
 refine ⟨⟨v0,v1,v2,v3,v4,v5,v6,v7,v8,v9,v10,v11,v12⟩,?_,⟨b0,⟨b1,n1⟩,⟨b2,n2⟩,⟨b3,n3⟩,⟨b4,n4⟩,⟨b5,n5⟩,⟨b6,n6⟩,⟨b7,n7⟩,⟨b8,n8⟩,⟨b9,n9⟩,⟨b10,n10⟩,⟨b11,n11⟩,⟨b12,n12⟩⟩⟩
 have hc:([c0,c1,c2,c3,c4,c5,c6,c7,c8,c9,c10,c11,c12]:List AV)=[c0] ++ [c1] ++ [c2] ++ [c3] ++ [c4] ++ [c5] ++ [c6] ++ [c7] ++ [c8] ++ [c9] ++ [c10] ++ [c11] ++ [c12]:=rfl
 rw [hc]
 rw [q0,q1,q2,q3,q4,q5,q6,q7,q8,q9,q10,q11,q12]
 rw [e1,e2,e3,e4,e5,e6,e7,e8,e9,e10,e11,e12]
 rfl
theorem ZsA {cs:List AV}(h:Of Tryz.prog 49 cs):∃ x,cs=Ko x∧ZrH x:=by
 obtain ⟨hl,hf⟩:=h.toStruct Tryz.underlying49
 rw [show Tryz.prog.cellsOf 49=3 from by kernel_rfl] at hl
 obtain ⟨c0,r0,rfl,hl0⟩:=JD hl
 obtain ⟨c1,r1,rfl,hl1⟩:=JD hl0
 obtain ⟨c2,r2,rfl,hl2⟩:=JD hl1
 obtain rfl:=List.eq_nil_of_length_eq_zero hl2
 have f0:Of Tryz.prog 9 ((([c0,c1,c2]:List AV).drop 0).take (Tryz.prog.cellsOf 9)):=hf 0 _ rfl
 rw [show Tryz.prog.cellsOf 9=1 from by kernel_rfl] at f0
 replace f0:Of Tryz.prog 9 [c0]:=f0
 obtain ⟨v0,q0,b0⟩:=f0.toStr Tryz.underlying9
 have f1:Of Tryz.prog 9 ((([c0,c1,c2]:List AV).drop 1).take (Tryz.prog.cellsOf 9)):=hf 1 _ rfl
 rw [show Tryz.prog.cellsOf 9=1 from by kernel_rfl] at f1
 replace f1:Of Tryz.prog 9 [c1]:=f1
 obtain ⟨v1,q1,b1⟩:=f1.toStr Tryz.underlying9
 have f2:Of Tryz.prog 3 ((([c0,c1,c2]:List AV).drop 2).take (Tryz.prog.cellsOf 3)):=hf 2 _ rfl
 rw [show Tryz.prog.cellsOf 3=1 from by kernel_rfl] at f2
 replace f2:Of Tryz.prog 3 [c2]:=f2
 obtain ⟨v2,q2,b2⟩:=f2.toI64 Tryz.underlying3
 refine ⟨⟨v0,v1,v2⟩,?_,⟨b0,b1,b2⟩⟩
 have hc:([c0,c1,c2]:List AV)=[c0] ++ [c1] ++ [c2]:=rfl
 rw [hc]
 rw [q0,q1,q2]
 rfl
theorem ZqP {cs:List AV}(h:Of Tryz.prog 26 cs):∃ x,cs=VM x∧RL x:=by
 obtain ⟨hl,hf⟩:=h.toStruct Tryz.underlying26
 rw [show Tryz.prog.cellsOf 26=4 from by kernel_rfl] at hl
 obtain ⟨c0,r0,rfl,hl0⟩:=JD hl
 obtain ⟨c1,r1,rfl,hl1⟩:=JD hl0
 obtain ⟨c2,r2,rfl,hl2⟩:=JD hl1
 obtain ⟨c3,r3,rfl,hl3⟩:=JD hl2
 obtain rfl:=List.eq_nil_of_length_eq_zero hl3
 have f0:Of Tryz.prog 9 ((([c0,c1,c2,c3]:List AV).drop 0).take (Tryz.prog.cellsOf 9)):=hf 0 _ rfl
 rw [show Tryz.prog.cellsOf 9=1 from by kernel_rfl] at f0
 replace f0:Of Tryz.prog 9 [c0]:=f0
 obtain ⟨v0,q0,b0⟩:=f0.toStr Tryz.underlying9
 have f1:Of Tryz.prog 22 ((([c0,c1,c2,c3]:List AV).drop 1).take (Tryz.prog.cellsOf 22)):=hf 1 _ rfl
 rw [show Tryz.prog.cellsOf 22=1 from by kernel_rfl] at f1
 replace f1:Of Tryz.prog 22 [c1]:=f1
 obtain ⟨w1,q1,b1,m1⟩:=f1.toSlice Tryz.underlying22
 rw [ZkT] at q1
 rw [Znf] at b1
 obtain ⟨v1,e1,n1⟩:=Jf (row := Vw) (fun r hr hq=>Zn2 hq) m1
 replace b1:v1.length * 32≤140737488351232:=by rw [e1,List.length_map] at b1; exact b1
 have f2:Of Tryz.prog 23 ((([c0,c1,c2,c3]:List AV).drop 2).take (Tryz.prog.cellsOf 23)):=hf 2 _ rfl
 rw [show Tryz.prog.cellsOf 23=1 from by kernel_rfl] at f2
 replace f2:Of Tryz.prog 23 [c2]:=f2
 obtain ⟨w2,q2,b2,m2⟩:=f2.toSlice Tryz.underlying23
 rw [ZoJ] at q2
 rw [Zqt] at b2
 obtain ⟨v2,e2,n2⟩:=Jf (row := Zh) (fun r hr hq=>Zm3 hq) m2
 replace b2:v2.length * 304≤140737488351232:=by rw [e2,List.length_map] at b2; exact b2
 have f3:Of Tryz.prog 24 ((([c0,c1,c2,c3]:List AV).drop 3).take (Tryz.prog.cellsOf 24)):=hf 3 _ rfl
 rw [show Tryz.prog.cellsOf 24=1 from by kernel_rfl] at f3
 replace f3:Of Tryz.prog 24 [c3]:=f3
 obtain ⟨w3,q3,b3,m3⟩:=f3.toSlice Tryz.underlying24
 rw [ZoK] at q3
 rw [Zqu] at b3
 obtain ⟨v3,e3,n3⟩:=Jf (row := Ko) (fun r hr hq=>ZsA hq) m3
 replace b3:v3.length * 40≤140737488351232:=by rw [e3,List.length_map] at b3; exact b3
 refine ⟨⟨v0,v1,v2,v3⟩,?_,⟨b0,⟨b1,n1⟩,⟨b2,n2⟩,⟨b3,n3⟩⟩⟩
 have hc:([c0,c1,c2,c3]:List AV)=[c0] ++ [c1] ++ [c2] ++ [c3]:=rfl
 rw [hc]
 rw [q0,q1,q2,q3]
 rw [e1,e2,e3]
 rfl
end Go.Proofs.YtlmfmmclnboglaaGreat
end
section
namespace Go.Proofs.YtlmfmmclnboglaaGreat.Abs
open Go Go.RowKit
set_option linter.all false
def ZbX (call:FuncId→List AV→List Zk→Option (AV×List Zk×Eff))(f:FuncId)(args:List AV)(hp:List Zk):Option (AV×List Zk×Eff) :=
 match call f args hp with
 | some (v,hp',none)=>match frz hp.length hp' v with
  | some v'=>some (v',hp,none)
  | none=>none
 | _=>none
theorem ZoH {call:FuncId→List AV→List Zk→Option (AV×List Zk×Eff)}:∀ f args hp v hp' e,ZbX call f args hp=some (v,hp',e)→hp'=hp∧e=none:=by
 intro f args hp v hp' e h
 unfold ZbX at h
 split at h <;> first | (cases h; done) | skip
 split at h <;> first | (cases h; done) | skip
 cases h
 exact ⟨rfl,rfl⟩
theorem ZoI {P:Program}{W0:World}{call:FuncId→List AV→List Zk→Option (AV×List Zk×Eff)}(hS:Uc P W0 call):Uc P W0 (ZbX call):=by
 intro f args hp v hp' e h Γ w xs hr ht hs hx
 unfold ZbX at h
 split at h <;> first | (cases h; done) | skip
 rename_i v0 hp0 hc
 split at h <;> first | (cases h; done) | skip
 rename_i v1 hf
 cases h
 refine (hS f args hp v0 hp0 none hc Γ w xs hr ht hs hx).mono fun cv w' ⟨Γ',r1,r2,r3,r4,r5⟩=>?_
 exact ZgA (s := ⟨[],hp0,none,hp.length⟩) hr rfl r5 (fun b n g i hb=>ht.cell b n g i hb) r1 r4 r2 r3 (keep := false) (by simp only [finish,hf]; rfl)
section
variable {P:Program}{G:Nat→Option (List AV)}{call:FuncId→List AV→List Zk→Option (AV×List Zk×Eff)}{E:Entry}{s s':Zv}{Γ:WC}{a:Act}{w:World}{hand:Nat→Bool}{draw:Bool}
theorem Zp9 (hG:GOk G E.W0)(hS:Uc P E.W0 call){ops:Array Oper}{o:Oper}{g:Option (Nat×Bool)}{u:Zv}{K:Act→World→Prop}{Q:Exit→Act→World→Prop}(h2:ZfE ops o.guard=some g)
  (he:QF G call ⟨o.dst,(cOp P hand draw o).getD .bad,g⟩ s=some u) (hI:Inv E s Γ a w) (hK:∀ Γ a w,Inv E u Γ a w→K a w) :
  if Region.wanted o (yielded ops a.tmps)=true then o.wp P a w K Q∨(o.asks P a w∧LetsOut Q) else K (a.put o.dst Go.undef) w:=by
 simp only [QF] at he
 split at he <;> first | (cases he; done) | skip
 ·rename_i hw
  rw [RH hI h2 hw]
  split at he <;> first | (cases he; done) | skip
  rename_i v s2 hev
  obtain rfl:=Option.some.inj he
  simp only [if_true]
  refine .inl (ZsR hG hS hI (RF hev) hev fun Γ' cv w' i1 r1 o1=>?_)
  obtain ⟨Γ2,i2⟩:=i1.put o.dst r1 o1
  exact hK _ _ _ i2
 ·rename_i hw
  rw [RH hI h2 hw]
  obtain rfl:=Option.some.inj he
  simp only [Bool.false_eq_true,if_false]
  obtain ⟨Γ2,i2⟩:=hI.put o.dst (v := .undef) (cv := Go.undef) .undef (.of_ne (by simp))
  exact hK _ _ _ i2
theorem Zrc (hG:GOk G E.W0)(hS:Uc P E.W0 call)(hpure:∀ f args hp v hp' e,call f args hp=some (v,hp',e)→hp'=hp∧e=none){ops:Array Oper}{bops:List J9}{Q:Exit→Act→World→Prop}{sF:Zv}(hc:Rs P hand draw ops ops.toList=some bops)(hd:ZiV ops bops=true)(hQ:∀ Γ a w,Inv E sF Γ a w→Q .normal a w) :
  ∀ (fuel:Nat) {listed:Array Bool} {s:Zv} {Γ:WC} {a:Act} {w:World},listed.size=ops.size→(Lr ops.size listed).length=fuel→XH G call ((Lr ops.size listed).map fun i=>bops.getD i ⟨none,.bad,none⟩) s=some sF→Inv E s Γ a w→wpAny P .any ops Q fuel listed a w:=by
 simp only [ZiV,Bool.and_eq_true,List.all_eq_true,List.mem_range] at hd
 obtain ⟨⟨hord,hnh⟩,hpair⟩:=hd
 obtain ⟨hlen,hget⟩:=NM hc
 intro fuel
 induction fuel with
 | zero =>
  intro listed s Γ a w hsz hl h hI
  have hn:=List.eq_nil_of_length_eq_zero hl
  rw [hn] at h
  obtain rfl:=Option.some.inj (by simpa [XH] using h:some s=some sF)
  refine ⟨List.eq_nil_iff_forall_not_mem.2 fun i hi=>?_,hQ _ _ _ hI⟩
  obtain ⟨h1,o,h2,_⟩:=mem_ready.1 hi
  have:i ∈ Lr ops.size listed:=TL.2 ⟨(Array.getElem?_eq_some_iff.1 h2).1,h1⟩
  rw [hn] at this
  cases this
 | succ fuel ih =>
  intro listed s Γ a w hsz hl h hI
  have hlisted:∀ j,j < ops.size→listed.getD j true≠false→listed.getD j false=true:=fun j hj h=>by
   have hj':j < listed.size:=by omega
   simp [hj'] at h ⊢; exact h
  refine ⟨fun hr=>?_,fun i hi=>?_⟩
  ·obtain ⟨i,r,hir⟩:∃ i r,Lr ops.size listed=i :: r:=by
    cases hx:Lr ops.size listed with
    | nil=>rw [hx] at hl; cases hl
    | cons i r=>exact ⟨i,r,rfl⟩
   have him:=TL.1 (show i ∈ Lr ops.size listed by rw [hir]; exact List.mem_cons_self ..)
   have hoi:ops[i]? = some ops[i]:=Array.getElem?_eq_getElem him.1
   have hready:i ∈ Region.ready .any ops listed:=by
    refine mem_ready.2 ⟨him.2,_,hoi,fun e he hb=>?_⟩
    have:=hord i him.1
    rw [hoi] at this
    have hlt:=Array.all_eq_true'.1 this e he
    rw [hb] at hlt
    simp only [Bool.not_true,Bool.false_or,decide_eq_true_eq] at hlt
    refine hlisted e.on (by omega) fun hun=>?_
    have hm:=TL.2 ⟨show e.on < ops.size by omega,hun⟩
    rw [hir] at hm
    have hs:=RB ops.size listed
    rw [hir] at hs
    rcases List.mem_cons.1 hm with he | hm
    ·omega
    ·have:=(List.pairwise_cons.1 hs).1 _ hm
     omega
   rw [hr] at hready
   cases hready
  ·obtain ⟨hun,o,ho,hdeps⟩:=mem_ready.1 hi
   have hin:=(Array.getElem?_eq_some_iff.1 ho).1
   obtain ⟨l1,l2,hsplit⟩:=List.append_of_mem (TL.2 ⟨hin,hun⟩)
   have hs:=RB ops.size listed
   rw [hsplit] at hs
   obtain ⟨g,hg1,hg2⟩:=hget i o (by simpa using ho)
   have hbi:bops.getD i ⟨none,.bad,none⟩=⟨o.dst,(cOp P hand draw o).getD .bad,g⟩:=by rw [List.getD_eq_getElem?_getD,hg2]; rfl
   have hcomm:∀ x ∈ l1.map (fun i=>bops.getD i ⟨none,.bad,none⟩),ZnQ x ⟨o.dst,(cOp P hand draw o).getD .bad,g⟩=true:=fun x hx=>by
    obtain ⟨j,hj,rfl⟩:=List.mem_map.1 hx
    have hji:j < i:=(List.pairwise_append.1 hs).2.2 j hj i (List.mem_cons_self ..)
    have hjm:=TL.1 (show j ∈ Lr ops.size listed by rw [hsplit]; exact List.mem_append_left _ hj)
    have:=hpair i hin j hji
    rw [Bool.or_eq_true] at this
    rcases this with h1 | h1
    ·exfalso
     unfold Zqi at h1
     rw [ho] at h1
     obtain ⟨e,he,hb⟩:=Array.any_eq_true'.1 h1
     simp only [Bool.and_eq_true,beq_iff_eq] at hb
     have h2:=hdeps e he hb.1
     rw [hb.2,Zjg hjm.2] at h2
     cases h2
    ·rw [hg2] at h1
     split at h1
     ·rename_i x y hx hy
      cases hy
      rw [List.getD_eq_getElem?_getD,hx]
      exact h1
     ·cases h1
   rw [hsplit,List.map_append,List.map_cons,hbi] at h
   obtain ⟨u,hu1,hu2⟩:=bubble hpure hcomm h
   rw [← List.map_append,← Zdd hsplit (by omega)] at hu2
   have hlen2:(Lr ops.size (listed.setIfInBounds i true)).length=fuel:=by
    rw [Zdd hsplit (by omega)]
    rw [hsplit] at hl
    simp at hl ⊢
    omega
   unfold wpOp
   simp only [ho]
   exact Zp9 hG hS hg1 hu1 hI fun Γ' a' w' hI'=>ih (by simp [hsz]) hlen2 hu2 hI'
end
def Bi (P:Program)(takes:FuncId→List Nat)(res:List Nat):Code→Option Zn
 | .skip=>some .skip
 | .region _ ops false=>(Rs P (fun t=>(handed takes res ops.toList).contains t) false ops ops.toList).map (.region false)
 | .region _ ops true=>match Rs P (fun t=>(handed takes res ops.toList).contains t) false ops ops.toList with
  | some bops=>if ZiV ops bops then some (.region true bops) else some .bad
  | _=>none
 | .seq a b=>match Bi P takes res a,Bi P takes res b with
  | some a,some b=>some (.seq a b)
  | _,_=>none
 | .cond c a b=>match QG P 0 c,Bi P takes res a,Bi P takes res b with
  | some c,some a,some b=>some (.cond c a b)
  | _,_,_=>none
 | .block id c=>(Bi P takes res c).map (.block id)
 | .loop c=>(Bi P takes res c).map .loop
 | .scope c=>(Bi P takes res c).map .scope
 | .exit id=>some (.exit id)
 | .ret=>some .ret
 | .label _=>some .skip
 | _=>some .bad
def Zu0 (P:Program)(takes:FuncId→List Nat)(fn:Func):Option AFn :=
 match fn.body,ZkJ P fn.results.toList with
 | some c,some rs=>(Bi P takes (Zkw fn.results.toList) c).map fun ac=>⟨fn.ntmps,rs,ac,!(takes CS).isEmpty⟩
 | _,_=>none
section
variable (G:Nat→Option (List AV))(call:FuncId→List AV→List Zk→Option (AV×List Zk×Eff))(L:Nat)
def XO:Zn→Zv→Option (AQ×Zv)
 | .skip,s=>some (.normal,s)
 | .region false ops,s=>(XH G call ops s).map (.normal,·)
 | .region true ops,s=>(XH G (ZbX call) ops s).map (.normal,·)
 | .seq a b,s=>match XO a s with
  | some (.normal,s')=>XO b s'
  | r=>r
 | .cond c a b,s=>match opnd G s.sl c with
  | some (.bool true)=>XO a s
  | some (.bool false)=>XO b s
  | _=>none
 | .block id c,s=>match XO c s with
  | some (.exit i,s')=>if i=id then some (.normal,s') else some (.exit i,s')
  | r=>r
 | .loop c,s=>iter (XO c) L s
 | .scope c,s=>XO c s
 | .exit id,s=>some (.exit id,s)
 | .ret,s=>some (.ret,s)
 | .bad,_=>none
end
section
variable {P:Program}{G:Nat→Option (List AV)}{call:FuncId→List AV→List Zk→Option (AV×List Zk×Eff)}{E:Entry}
theorem Zq2 (hm:P.follows .mixedOrders=true)(hG:GOk G E.W0)(hS:Uc P E.W0 call){takes:FuncId→List Nat}{res:List Nat}(L:Nat):∀ {c:Code} {ac:Zn} {s:Zv} {r:AQ×Zv} {Γ:WC} {a:Act} {w:World},
  Bi P takes res c=some ac→XO G call L ac s=some r→Inv E s Γ a w→c.wp P (Ends E r) a w:=by
 intro c
 induction c with
 | skip =>
  intro ac s r Γ a w hc h hI
  cases hc; cases h
  exact Go.wp_skip (.normal hI)
 | region id ops draw =>
  intro ac s r Γ a w hc h hI
  cases draw with
  | false =>
   simp only [Bi] at hc
   obtain ⟨aops,h1,rfl⟩:=Option.map_eq_some_iff.1 hc
   simp only [XO] at h
   obtain ⟨s1,h2,rfl⟩:=Option.map_eq_some_iff.1 h
   refine wp_region ?_
   rw [List.range_eq_range']
   have:=Zn5 hG hS (Q := Ends E (.normal,s1)) 0 (l := ops.toList) (by simp) h1 h2 hI fun Γ a w h=>.normal h
   simpa using this
  | true =>
   simp only [Bi] at hc
   split at hc <;> first | (cases hc; done) | skip
   rename_i bops h1'
   split at hc
   ·rename_i hd
    cases hc
    simp only [XO] at h
    obtain ⟨s1,h2,rfl⟩:=Option.map_eq_some_iff.1 h
    refine wp_region_any hm ?_
    have hb:Behind w { w with drawn:=w.drawn + 1 }:=⟨rfl,rfl,rfl,Nat.le_refl _,fun _ _=>rfl⟩
    have hr:Lr ops.size (Array.replicate ops.size false)=List.range ops.size:=by
     unfold Lr
     refine List.filter_eq_self.2 fun i hi=>?_
     simp only [List.mem_range] at hi
     simp [hi]
    have hmap:(List.range ops.size).map (fun i=>bops.getD i ⟨none,.bad,none⟩)=bops:=by
     have hl:ops.size=bops.length:=by simpa using (NM h1').1
     rw [hl]
     refine List.ext_getElem? fun i=>?_
     rw [List.getElem?_map]
     by_cases hi:i < bops.length
     ·rw [List.getElem?_range hi,Option.map_some,List.getD_eq_getElem?_getD,List.getElem?_eq_getElem hi]; rfl
     ·rw [List.getElem?_eq_none (by simpa using hi),List.getElem?_eq_none (by omega)]; rfl
    exact Zrc hG (ZoI hS) ZoH (Q := Ends E (.normal,s1)) h1' hd (fun Γ a w h=>.normal h) ops.size (by simp) (by rw [hr]; simp) (by rw [hr,hmap]; exact h2) (hb.inv hI)
   ·cases hc; cases h
 | seq x y ihx ihy =>
  intro ac s r Γ a w hc h hI
  simp only [Bi] at hc
  split at hc <;> first | (cases hc; done) | skip
  rename_i ax ay hx hy
  obtain rfl:=Option.some.inj hc
  simp only [XO] at h
  refine Go.wp_seq ?_
  split at h
  ·rename_i s1 h1
   refine Go.wp_mono (ihx hx h1 hI) fun e a' w' he=>?_
   obtain ⟨k1,Γ',i1⟩:=he
   cases e <;> first | exact k1.elim | skip
   exact ihy hy h i1
  ·rename_i hne
   refine Go.wp_mono (ihx hx h hI) fun e a' w' he=>?_
   cases e <;> first | exact he | skip
   obtain ⟨k1,_⟩:=he
   obtain ⟨q,s1⟩:=r
   cases q <;> first | exact k1.elim | skip
   exact absurd h (hne s1)
 | cond c x y ihx ihy =>
  intro ac s r Γ a w hc h hI
  simp only [Bi] at hc
  split at hc <;> first | (cases hc; done) | skip
  rename_i c' ax ay hcc hx hy
  obtain rfl:=Option.some.inj hc
  simp only [XO] at h
  split at h <;> first | (cases h; done) | skip
  ·rename_i hb
   have k:=(Yb hG hI hcc hb).1
   generalize hq:a.eval c=q at k
   cases k
   exact Go.wp_cond_true hq (ihx hx h hI)
  ·rename_i hb
   have k:=(Yb hG hI hcc hb).1
   generalize hq:a.eval c=q at k
   cases k
   exact Go.wp_cond_false hq (ihy hy h hI)
 | block id c ih =>
  intro ac s r Γ a w hc h hI
  simp only [Bi] at hc
  obtain ⟨ax,hx,rfl⟩:=Option.map_eq_some_iff.1 hc
  simp only [XO] at h
  refine Go.wp_block ?_
  split at h
  ·rename_i i s1 h1
   split at h
   ·rename_i hi
    obtain rfl:=Option.some.inj h
    refine Go.wp_mono (ih hx h1 hI) fun e a' w' he=>?_
    obtain ⟨k1,Γ',i1⟩:=he
    cases e <;> first | exact k1.elim | skip
    rename_i j
    simp only [Exit.inBlock]
    rw [if_pos (by rw [← hi]; exact (show i=j from k1).symm)]
    exact .normal i1
   ·rename_i hi
    obtain rfl:=Option.some.inj h
    refine Go.wp_mono (ih hx h1 hI) fun e a' w' he=>?_
    obtain ⟨k1,Γ',i1⟩:=he
    cases e <;> first | exact k1.elim | skip
    rename_i j
    simp only [Exit.inBlock]
    rw [if_neg (by rw [← (show i=j from k1)]; exact hi)]
    exact ⟨k1,Γ',i1⟩
  ·rename_i hne
   refine Go.wp_mono (ih hx h hI) fun e a' w' he=>?_
   cases e <;> first | exact he | skip
   obtain ⟨k1,_⟩:=he
   obtain ⟨q,s1⟩:=r
   cases q <;> first | exact k1.elim | skip
   exact absurd h (hne _ s1)
 | loop c ih =>
  intro ac s r Γ a w hc h hI
  simp only [Bi] at hc
  obtain ⟨ax,hx,rfl⟩:=Option.map_eq_some_iff.1 hc
  simp only [XO] at h
  exact wp_loop_rounds L (Zmx (fun h1 h2=>ih hx h1 h2) L h hI)
 | scope c ih =>
  intro ac s r Γ a w hc h hI
  simp only [Bi] at hc
  obtain ⟨ax,hx,rfl⟩:=Option.map_eq_some_iff.1 hc
  simp only [XO] at h
  refine Go.wp_scope_straight (Go.wp_mono (ih hx h hI) fun e a' w' he=>?_)
  cases e <;> first | exact he | skip
  obtain ⟨k1,_⟩:=he
  obtain ⟨q,s1⟩:=r
  cases q <;> exact k1.elim
 | exit id =>
  intro ac s r Γ a w hc h hI
  cases hc; cases h
  exact Go.wp_exit ⟨rfl,Γ,hI⟩
 | ret =>
  intro ac s r Γ a w hc h hI
  cases hc; cases h
  exact Go.wp_ret ⟨trivial,Γ,hI⟩
 | label l =>
  intro ac s r Γ a w hc h hI
  cases hc; cases h
  exact Go.wp_label (.normal hI)
 | _ =>
  intro ac s r Γ a w hc h
  cases hc; cases h
end
section
variable {G:Nat→Option (List AV)}{call:FuncId→List AV→List Zk→Option (AV×List Zk×Eff)}
theorem Zll (L:Nat):∀ {c:Zn} {s:Zv} {r:AQ×Zv},XO G call L c s=some r→r.2.bs=s.bs:=by
 intro c
 induction c with
 | skip=>intro s r h; cases h; rfl
 | region draw ops =>
  intro s r h
  cases draw with
  | false =>
   simp only [XO] at h
   obtain ⟨s1,h1,rfl⟩:=Option.map_eq_some_iff.1 h
   exact Sw h1
  | true =>
   simp only [XO] at h
   obtain ⟨s1,h1,rfl⟩:=Option.map_eq_some_iff.1 h
   exact Sw h1
 | seq x y ihx ihy =>
  intro s r h
  simp only [XO] at h
  split at h
  ·rename_i s1 h1
   rw [ihy h]; exact ihx h1
  ·exact ihx h
 | cond c x y ihx ihy =>
  intro s r h
  simp only [XO] at h
  split at h <;> first | (cases h; done) | skip
  ·exact ihx h
  ·exact ihy h
 | block id c ih =>
  intro s r h
  simp only [XO] at h
  split at h
  ·rename_i i s1 h1
   have:=ih h1
   split at h <;> (obtain rfl:=Option.some.inj h; exact this)
  ·exact ih h
 | loop c ih =>
  intro s r h
  simp only [XO] at h
  exact Zmw ih L h
 | scope c ih=>intro s r h; simp only [XO] at h; exact ih h
 | exit id=>intro s r h; cases h; rfl
 | ret=>intro s r h; cases h; rfl
 | bad=>intro s r h; cases h
end
def Zg5 (C:Cfg)(n:Nat)(fn:AFn)(args:List AV)(hp:List Zk):Option (AV×List Zk×Eff) :=
 match XO C.G (Za C n) C.L fn.code ⟨args ++ List.replicate (fn.ntmps - args.length) .undef,hp,none,hp.length⟩ with
 | some (.exit _,_)=>none
 | some (_,s)=>match BC s fn.results with
  | some v=>some (if fn.keep then (v.nm,s.hp,s.ef) else finish v s hp)
  | none=>none
 | none=>none
theorem ZnS {P:Program}{W0:World}{C:Cfg}(h:ZnL P W0 C)(n:Nat){f:FuncId}{fn:Func}{takes:FuncId→List Nat}{af:AFn}(hf:P.funcs[f]? = some fn)(hname:(fn.name == "runtime.NumGoroutine")=false)(hcf:Zu0 P takes fn=some af) :
  Uc P W0 fun g args hp=>if g=f then Zg5 C n af args hp else none:=by
 intro g args hp v hp' e hc Γ w xs hr ht hs hx
 replace hc:(if g=f then Zg5 C n af args hp else none)=some (v,hp',e):=hc
 split at hc
 case isFalse=>cases hc
 rename_i hgf
 subst hgf
 have ih:=Zg4 h n
 unfold Zg5 at hc
 unfold Zu0 at hcf
 split at hcf <;> first | (cases hcf; done) | skip
 rename_i c rs hb hrs
 obtain ⟨ac,hac,rfl⟩:=Option.map_eq_some_iff.1 hcf
 split at hc
 ·cases hc
 ·rename_i x s hne hev
  split at hc <;> first | (cases hc; done) | skip
  rename_i u hu
  have hfin:=Option.some.inj hc
  refine ⟨ZcO hf hname hb xs w,?_⟩
  have hbs:s.bs=hp.length:=Zll C.L hev
  have hI:Inv ⟨W0,Γ,w⟩ ⟨args ++ List.replicate (fn.ntmps - args.length) .undef,hp,none,hp.length⟩ Γ { tmps := xs ++ Array.replicate (fn.ntmps - xs.size) Go.undef,defers := [] } w:=by
   have get:∀ (t:Nat) (y:AV),(args ++ List.replicate (fn.ntmps - args.length) AV.undef)[t]? = some y→(args[t]? = some y∧(xs ++ Array.replicate (fn.ntmps - xs.size) Go.undef).getD t Go.undef=xs.getD t Go.undef)∨(y=.undef∧(xs ++ Array.replicate (fn.ntmps - xs.size) Go.undef).getD t Go.undef=Go.undef):=by
    intro t y hy
    rw [List.getElem?_append] at hy
    split at hy
    ·rename_i hlt
     refine .inl ⟨hy,?_⟩
     rw [Array.getD_eq_getD_getElem?,Array.getD_eq_getD_getElem?,Array.getElem?_append_left (by omega)]
    ·rename_i hge
     have hm:=List.mem_of_getElem? hy
     have:=List.eq_of_mem_replicate hm
     refine .inr ⟨this,?_⟩
     have hlt:=Ya hy
     simp only [List.length_replicate] at hlt
     rw [Array.getD_eq_getD_getElem?,Array.getElem?_append_right (by omega),Array.getElem?_replicate,if_pos (by omega)]
     rfl
   refine ⟨rfl,⟨by simp [hs],fun t y hy=>?_,fun t y hy=>?_⟩,hr,.refl _ _ _,fun b g hb=>hr.lt b g hb,fun b m g i hb=>ht.cell b m g i hb,Nat.le_refl _⟩
   ·rcases get t y hy with ⟨h1,h2⟩ | ⟨rfl,h2⟩
    ·rw [h2]; exact (hx t y h1).1
    ·rw [h2]; exact .undef
   ·rcases get t y hy with ⟨h1,h2⟩ | ⟨rfl,h2⟩
    ·rw [h2]; exact (hx t y h1).2
    ·exact .of_ne (by simp)
  have hw:=Zq2 h.mixed h.globals ih C.L hac hev hI
  refine calls_of_wp hf hb (Go.wp_mono hw fun en a' w' he=>?_)
  obtain ⟨k1,Γ',i1⟩:=he
  have fin:a'.defers=[]∧∃ cv,(results fn a'.tmps).run P w'=.ok cv w'∧∃ v',Ending.returned cv=.returned v'∧∃ Γ',RW W0 Γ' w' hp'∧Rep Γ' w' v v'∧OwnAt Γ' w' .res v v'∧Frame Γ w Γ' w' e∧hp.length≤hp'.length:=by
   obtain ⟨cv,Γ2,q1,q2,q3,q4,q5⟩:=Zsb i1 hrs hu
   obtain ⟨Γ3,p1,p2,p3,p4,p5⟩:=ZgA hr hbs (by rw [hbs]; have:=i1.le; simpa [hbs] using this) (fun b m g i hb=>by rw [hbs]; exact ht.cell b m g i hb) q2 q3 q4 q5 hfin
   exact ⟨i1.defers,cv,q1,cv,rfl,Γ3,p1,p2,p3,p4,p5⟩
  cases x with
  | exit i=>exact (hne i rfl).elim
  | normal=>cases en <;> first | exact k1.elim | exact fin
  | ret=>cases en <;> first | exact k1.elim | exact fin
 ·cases hc
theorem Zuz {P:Program}{W:World}{C:Cfg}(h:ZnL P W C){n:Nat}{f:FuncId}{fn:Func}{takes:FuncId→List Nat}{af:AFn}(hf:P.funcs[f]? = some fn)(hname:(fn.name == "runtime.NumGoroutine")=false)(hcf:Zu0 P takes fn=some af)
  {hp:List Zk} {e:Eff} (hev:Zg5 C n af [] []=some (.bool true,hp,e)):Calls P f #[] W fun e W'=>e=.returned (.bool true)∧Below W.heap.size W W':=by
 obtain ⟨_,hw⟩:=ZnS h n hf hname hcf f [] [] (.bool true) hp e (by simpa using hev) still W #[] (ZnG W) Zjx rfl fun j x hx=>by simp at hx
 refine hw.mono fun en W' ⟨cv,hv,Γ',r1,r2,_,r4,_⟩=>?_
 subst hv
 cases r2
 exact ⟨rfl,r4.os,r4.tape,r4.output,r4.size,fun b hb=>(r4.keep b hb trivial).2⟩
end Go.Proofs.YtlmfmmclnboglaaGreat.Abs
end
section
namespace Go.Proofs.YtlmfmmclnboglaaGreat
open Go Go.Proofs.YtlmfmmclnboglaaGreat.Abs
set_option maxRecDepth 100000
set_option maxHeartbeats 0
set_option linter.all false
def Zux:FuncId→List Nat:=fun _=>[]
def Zsf:FuncId→List Nat:=fun x=>if x=CS then [1000043,1000050,1000058,1000055] else []
def Zj5:Zn:=yQ [yC 0 yF] (yQ [yP 8 25 [],yP 9 25 [],yP 10 25 [],yP 11 25 [],yI 1 (.mk 26 [(.str []),(.own 3 []),(.own 13 []),(.own 3 [])]),yI 2 (.mk 26 [(.str []),(.own 3 []),(.own 13 []),(.own 3 [])]),yI 3 (.mk 26 [(.str []),(.own 3 []),(.own 13 []),(.own 3 [])]),yI 4 (.mk 26 [(.str []),(.own 3 []),(.own 13 []),(.own 3 [])]),yN (.st 4 (yV 1) (yV 8)),yN (.st 4 (yV 2) (yV 9)),yN (.st 4 (yV 3) (yV 10)),yN (.st 4 (yV 4) (yV 11))] (yQ [yH 12 2 2,yL 13 12,yI 14 (.lit 9 1 [(yS [109])]),yI 15 (.ia (.slice 13) (yV 13) (yK 0)),yH 16 5 15,yN (.stt (yV 16) 14)] (yQ [yH 17 2 3,yL 18 17,yI 19 (.ia (.slice 13) (yV 18) (yK 0)),yH 20 12 19,yL 21 20,yI 22 (.ia (.slice 3) (yV 21) (yK 0)),yH 23 1 22,yL 24 23,yI 25 (.ia (.slice 3) (yV 24) (yK 0)),yH 26 1 25,yN (.st 1 (yV 26) (yS [115,116,111,114,101,100]))] (yQ [yH 27 3 4,yL 28 27,yI 29 (.ia (.slice 3) (yV 28) (yK 0)),yH 30 1 29,yN (.st 1 (yV 30) (yS [112,108,97,110,116]))] (yQ [yD 32 4 1,yP 33 12 [yA 32,yB (yS [112,108,97,110,116]),yB (yS [121,97,114,100])],yM 31 33,yI 34 (.extract (yV 31) 0),yI 35 (.extract (yV 31) 1),yU 5 34,yU 6 35] (yQ [yH 36 2 1,yL 37 36,yI 38 (.ia (.slice 13) (yV 37) (yK 0)),yD 39 13 38,yI 7 (.mk 42 [(.str []),(.own 3 []),(.own 17 []),(.own 3 []),(.own 3 []),(.own 1 []),(.own 1 []),(.own 1 []),(.own 1 []),(.own 1 []),(.own 4 []),(.own 5 []),(.own 3 [])]),yN (.st 13 (yV 7) (yV 39))] (.seq (.region true [yD 40 4 1,yP 41 10 [yA 40],yX 42 .eql (yV 41) (yK 0),yM 43 42,yJ 44 (.lda 4 (yV 2)) 43 true,yJ 45 (.call (yG 10) [yA 44]) 43 true,yJ 46 (.bin .eql .prim (yV 45) (yK 4)) 43 true,yI 47 (.pick (yV 43) (yV 46) yF),yM 48 47,yJ 49 (.lda 4 (yV 3)) 48 true,yJ 50 (.call (yG 10) [yA 49]) 48 true,yJ 51 (.bin .eql .prim (yV 50) (yK 5)) 48 true,yI 52 (.pick (yV 48) (yV 51) yF),yM 53 52,yJ 54 (.lda 4 (yV 4)) 53 true,yJ 55 (.call (yG 10) [yA 54]) 53 true,yJ 56 (.bin .eql .prim (yV 55) (yK 1)) 53 true,yI 57 (.pick (yV 53) (yV 56) yF),yM 58 57,yJ 59 (.mv (yV 5)) 58 true,yJ 60 (.bin .eql .prim (yV 59) (yK 4)) 58 true,yI 61 (.pick (yV 58) (yV 60) yF),yM 62 61,yJ 63 (.mv (yV 6)) 62 true,yI 64 (.pick (yV 62) (yV 63) yF),yM 65 64,yJ 66 (.lda 4 (yV 1)) 65 true,yJ 67 (.call (yG 14) [yA 66,yB (yS [121,97,114,100])]) 65 true,yJ 68 (.bin .eql .prim (yV 67) (yK 1)) 65 true,yI 69 (.pick (yV 65) (yV 68) yF),yM 70 69,yJ 71 (.lda 13 (yV 7)) 70 true,yJ 72 (.call (yG 16) [yA 71,yB (yS [112,97,114,116])]) 70 true,yJ 73 (.bin .eql .prim (yV 72) (yK 0)) 70 true,yI 74 (.pick (yV 70) (yV 73) yF),yM 75 74,yJ 76 (.lda 13 (yV 7)) 75 true,yJ 77 (.call (yG 18) [yA 76,yB (yS [100,111,110,101])]) 75 true,yJ 78 (.bin .eql .prim (yV 77) (yS [99,111,117,110,116])) 75 true,yI 79 (.pick (yV 75) (yV 78) yF),yM 80 79,yJ 81 (.lda 13 (yV 7)) 80 true,yJ 82 (.call (yG 20) [yA 81,yB (yS [100,111,110,101])]) 80 true,yJ 83 (.bin .eql .prim (yV 82) (yK 0)) 80 true,yI 84 (.pick (yV 80) (yV 83) yF),yM 85 84,yJ 86 (.lda 13 (yV 7)) 85 true,yJ 87 (.call (yG 20) [yA 86,yB (yS [120])]) 85 true,yJ 88 (.bin .eql .prim (yV 87) (.const (.int .i64 (-1)))) 85 true,yI 89 (.pick (yV 85) (yV 88) yF),yM 90 89,yJ 91 (.lda 4 (yV 1)) 90 true,yJ 92 (.call (yG 25) []) 90 true,yJ 93 (.call (yG 23) [yA 91,yA 92]) 90 true,yI 94 (.pick (yV 90) (yV 93) yF),yM 95 94,yJ 96 (.lda 4 (yV 1)) 95 true,yJ 97 (.lda 4 (yV 2)) 95 true,yJ 98 (.call (yG 23) [yA 96,yA 97]) 95 true,yJ 99 (.un .not (yV 98)) 95 true,yI 100 (.pick (yV 95) (yV 99) yF),yU 0 100]) (.ret))))))))
def ZbS:AFn:=⟨101,[.tmp 0],Zj5,false⟩
theorem Zk3:Zu0 Tryz.prog Zux Tryz.f9=some ZbS:=by kernel_rfl
theorem ZjY:(Tryz.f9.name == "runtime.NumGoroutine")=false:=by kernel_rfl
end Go.Proofs.YtlmfmmclnboglaaGreat
end
section
namespace Go.Proofs.YtlmfmmclnboglaaGreat
open Go Go.Proofs.YtlmfmmclnboglaaGreat.Abs
set_option maxRecDepth 100000
set_option maxHeartbeats 0
set_option linter.all false
def ZhE:Zn:=yQ [yI 0 (.mk 26 [(.str []),(.own 3 []),(.own 13 []),(.own 3 [])])] (yQ [yI 2 (.build [(.str []),(.int .i64 0),(.own 2 []),(.int .i64 0),(.str []),(.int .i64 0),(.int .i64 0),(.int .i64 0),(.int .i64 0),(.own 1 []),(.own 1 []),(.int .i64 0),(.int .i64 0),(.int .i64 0),(.int .i64 0),(.own 1 []),(.own 1 [])] [(0,1,(yS [109])),(1,1,(yK 1))]),yI 3 (.lit 92 17 [(yV 2)]),yI 4 (.lit 9 1 [(yS [113])]),yI 5 (.lit 9 1 [(yS [100,111,110,101])]),yI 6 (.build [(.str []),(.int .i64 0)] [(0,1,(yS [107])),(1,1,(yK 1))]),yI 7 (.lit 103 2 [(yV 6)]),yI 8 (.build [(.str []),(.own 2 []),(.own 2 []),(.own 21 [])] [(0,1,(yS [112,97,114,116])),(1,1,(yV 7))]),yI 9 (.lit 79 4 [(yV 8)]),yI 10 (.lit 3 1 [(yK 3)]),yI 11 (.build [(.str []),(.own 1 []),(.int .i64 0),(.int .i64 0),(.int .i64 0)] [(0,1,(yS [112,97,114,116])),(1,1,(yV 10)),(2,1,(yK 1))]),yI 12 (.lit 105 5 [(yV 11)]),yI 13 (.build [(.int .i64 0),(.str []),(.str [])] [(0,1,(yK 1)),(1,1,(yS [99,114,101,97,116,101,100])),(2,1,(yS [112,97,114,116]))]),yI 14 (.build [(.int .i64 0),(.str []),(.str [])] [(0,1,(.const (.int .i64 (-1)))),(1,1,(yS [105,110,115,105,100,101])),(2,1,(yS [112,97,114,116]))]),yI 15 (.lita 54 3 [(yV 13),(yV 14)]),yI 16 (.build [(.str []),(.own 3 []),(.int .i64 0)] [(0,1,(yS [112,97,114,116,115])),(1,1,(yV 15))]),yI 17 (.lita 57 3 [(yV 16)]),yI 18 (.build [(.str []),(.own 3 []),(.own 17 []),(.own 3 []),(.own 3 []),(.own 1 []),(.own 1 []),(.own 1 []),(.own 1 []),(.own 1 []),(.own 4 []),(.own 5 []),(.own 3 [])] [(0,1,(yS [112,108,97,110,116])),(2,1,(yV 3)),(5,1,(yV 4)),(9,1,(yV 5)),(10,1,(yV 9)),(11,1,(yV 12)),(12,1,(yV 17))]),yI 1 (.mk 42 [(.str []),(.own 3 []),(.own 17 []),(.own 3 []),(.own 3 []),(.own 1 []),(.own 1 []),(.own 1 []),(.own 1 []),(.own 1 []),(.own 4 []),(.own 5 []),(.own 3 [])]),yN (.st 13 (yV 1) (yV 18))] (yQ [yD 19 13 1,yI 20 (.build [(.str []),(.own 3 []),(.own 17 []),(.own 3 []),(.own 3 []),(.own 1 []),(.own 1 []),(.own 1 []),(.own 1 []),(.own 1 []),(.own 4 []),(.own 5 []),(.own 3 [])] [(0,1,(yS [121,97,114,100]))]),yI 21 (.lita 42 13 [(yV 19),(yV 20)]),yI 22 (.build [(.str []),(.str []),(.int .i64 0)] [(0,1,(yS [112,108,97,110,116])),(1,1,(yS [121,97,114,100])),(2,1,(yK 4))]),yI 23 (.lita 49 3 [(yV 22)]),yI 24 (.build [(.str []),(.own 3 []),(.own 13 []),(.own 3 [])] [(0,1,(yS [115,104,111,112])),(2,1,(yV 21)),(3,1,(yV 23))]),yN (.st 4 (yV 0) (yV 24))] (.ret)))
def Za2:AFn:=⟨25,[.agg 0 4],ZhE,true⟩
theorem ZiJ:cFn Tryz.prog Zsf Tryz.f25=some Za2:=by kernel_rfl
theorem Ziw:(Tryz.f25.name == "runtime.NumGoroutine")=false:=by kernel_rfl
def Zvb:List (Nat×AFn):=[(25,Za2)] ++ tab
theorem Ztt:∀ p ∈ Zvb,∃ fn takes,Tryz.prog.funcs[p.1]? = some fn∧(fn.name == "runtime.NumGoroutine")=false∧cFn Tryz.prog takes fn=some p.2:=by
 intro p hp
 rcases List.mem_append.1 hp with hp | hp
 ·simp only [List.mem_cons,List.not_mem_nil,or_false] at hp
  rcases hp with rfl | rfl
  ·exact ⟨Tryz.f25,Zsf,Tryz.func25,Ziw,ZiJ⟩
 ·exact Zse p hp
end Go.Proofs.YtlmfmmclnboglaaGreat
end
section
namespace Go.Proofs.YtlmfmmclnboglaaGreat.Abs
open Go Go.RowKit Go.Shelf
set_option linter.all false
def ZnU (f:FuncId)(k bytes:Nat)(g:FuncId)(args:List AV)(hp:List Zk):Option (AV×List Zk×Eff) :=
 if g=f then
  match args with
  | [.own k' [],.int .i64 n]=>if k'=k∧0≤n∧n.toNat * bytes≤140737488355328∧n.toNat≤140737488355328 then some (.own k [],hp,none) else none
  | _=>none
 else none
theorem Zpi {P:Program}{ρ:Ren}{W0:World}(L:Lays8.n4 P ρ){i0:TypeInfo}{z:Value}(hi0:P.info? (ρ.t 25)=some i0)(hz0:i0.zero=some z)(hzs:z.cells.size=i0.size)(hs0:0 < i0.size) :
  Uc P W0 (ZnU (ρ.f 4) i0.size i0.bytes):=by
 intro g args hp v hp' e hc Γ w xs hr ht hs hx
 unfold ZnU at hc
 split at hc
 case isFalse=>cases hc
 rename_i hgf
 subst hgf
 split at hc <;> first | (cases hc; done) | skip
 rename_i k' n
 split at hc <;> first | (cases hc; done) | skip
 rename_i hh
 obtain ⟨rfl,hn0,hnb,hn47⟩:=hh
 cases hc
 have hI:Inv ⟨W0,Γ,w⟩ ⟨[.own i0.size []],hp,none,hp.length⟩ Γ { tmps := #[xs.getD 0 Go.undef],defers := [] } w:=by
  refine ⟨rfl,⟨rfl,fun t y hy=>?_,fun t y hy=>?_⟩,hr,.refl _ _ _,fun b g hb=>hr.lt b g hb,fun b m g i hb=>ht.cell b m g i hb,Nat.le_refl _⟩
  ·cases t with
   | zero=>exact (hx 0 y (by simpa using hy)).1
   | succ t=>simp at hy
  ·cases t with
   | zero=>exact (hx 0 y (by simpa using hy)).2
   | succ t=>simp at hy
 have hx1:xs.getD 1 Go.undef=.int .i64 n:=by
  have:=(hx 1 _ rfl).1
  generalize xs.getD 1 Go.undef=u at this
  cases this; rfl
 have hxs:xs=#[xs.getD 0 Go.undef,xs.getD 1 Go.undef]:=by
  have hs2:xs.size=2:=hs
  refine Array.ext hs2 fun i h1 h2=>?_
  have:i=0∨i=1:=by simp at h2; omega
  rcases this with rfl | rfl <;> simp [Array.getD_eq_getD_getElem?,h1]
 obtain ⟨m,rfl⟩:∃ m:Nat,n=m:=⟨n.toNat,by omega⟩
 simp only [Int.toNat_natCast] at hnb hn47
 have hgo:∀ {R:Value→World→Prop},Calls P (ρ.f 4) xs w (fun e w''=>∃ v,e=.returned v∧R v w'')→Zsg P (ρ.f 4) xs w R:=fun h=>by
  obtain ⟨nm,hn,hf⟩:=L.f4
  exact ⟨ZcO hf hn rfl xs w,h⟩
 have same:∀ {cv:Value} {Γ':WC} {s:Zv} {a:Act} {w':World},s.hp=hp→s.ef=none→Inv ⟨W0,Γ,w⟩ s Γ' a w'→Rep Γ' w' (.own i0.size []) cv→OwnAt Γ' w' .res (.own i0.size []) cv →
   ∃ Γ',RW W0 Γ' w' hp∧Rep Γ' w' (.own i0.size []) cv∧OwnAt Γ' w' .res (.own i0.size []) cv∧Frame Γ w Γ' w' none∧hp.length≤hp.length:=fun h1 h2 i r o=>⟨_,by rw [← h1]; exact i.rw,r,o,by rw [← h2]; exact i.fr,Nat.le_refl _⟩
 have hmax:maxLen=9223372036854775807:=rfl
 have new:∀ (c:Nat) (cs:List Value),c < m→cs.length=c * i0.size →
   ∃ Γ',RW W0 Γ' (w.drew.alloc (.cells (cs.toArray ++ Builtin.zeroCells z.cells (0 + m - c) ++ Builtin.zeroCells z.cells (grownCap w (0 + m) c (ρ.t 25) - (0 + m))) (ρ.t 25))) hp ∧
    Rep Γ' (w.drew.alloc (.cells (cs.toArray ++ Builtin.zeroCells z.cells (0 + m - c) ++ Builtin.zeroCells z.cells (grownCap w (0 + m) c (ρ.t 25) - (0 + m))) (ρ.t 25))) (.own i0.size []) (.slice (some ⟨w.heap.size,0,none⟩) 0 (grownCap w (0 + m) c (ρ.t 25))) ∧
    OwnAt Γ' (w.drew.alloc (.cells (cs.toArray ++ Builtin.zeroCells z.cells (0 + m - c) ++ Builtin.zeroCells z.cells (grownCap w (0 + m) c (ρ.t 25) - (0 + m))) (ρ.t 25))) .res (.own i0.size []) (.slice (some ⟨w.heap.size,0,none⟩) 0 (grownCap w (0 + m) c (ρ.t 25))) ∧
    Frame Γ w Γ' (w.drew.alloc (.cells (cs.toArray ++ Builtin.zeroCells z.cells (0 + m - c) ++ Builtin.zeroCells z.cells (grownCap w (0 + m) c (ρ.t 25) - (0 + m))) (ρ.t 25))) none∧hp.length≤hp.length:=by
  intro c cs hcm hcl
  have hge:=grownCap_ge w (0 + m) c (ρ.t 25)
  have hle:=grownCap_le_maxLen w (0 + m) c (ρ.t 25) (by omega)
  obtain ⟨Γ',i1,o1⟩:=ZmC (w := w.drew) hI.drew (k := i0.size) (cap := grownCap w (0 + m) c (ρ.t 25)) (rows := []) (e := ρ.t 25)
   (cur := cs.toArray ++ Builtin.zeroCells z.cells (0 + m - c) ++ Builtin.zeroCells z.cells (grownCap w (0 + m) c (ρ.t 25) - (0 + m))) (Nat.zero_le _) hle (by
    simp only [Array.size_append,List.size_toArray,size_zeroCells,hzs,hcl,← Nat.add_mul]
    congr 1
    omega) (fun r hr=>by cases hr) (fun i j r c hi hj=>by simp at hi)
  exact same rfl rfl i1 (.own _ _ _ (.lstE _ _ _)) o1
 obtain ⟨Γ2,i2,r2,o2⟩:=hI.take 0 (v := .own i0.size []) rfl
 have r2':Rep Γ2 w (.own i0.size []) (xs.getD 0 Go.undef):=r2
 have o2':OwnAt Γ2 w .res (.own i0.size []) (xs.getD 0 Go.undef):=o2
 refine hgo ?_
 rcases (hx 0 _ rfl).2 _ _ rfl with ⟨h1,_⟩ | ⟨b,cap,e0,cur,h1,hg,hh,h2,h3,h4,_⟩
 ·rw [hxs,hx1]
  rw [h1] at r2' o2' ⊢
  rcases Nat.eq_zero_or_pos m with hm | hm
  ·subst hm
   refine (Any8.slices_Grow_room L none 0 0 0 w (by omega) (by omega) (by omega) (by omega)).mono ?_
   rintro e w' ⟨rfl,rfl⟩
   exact ⟨_,rfl,same (s := Zv.let_ ⟨[.own i0.size []],hp,none,hp.length⟩ 0) rfl rfl i2 r2' o2'⟩
  ·refine (Any8.slices_Grow_grow L i0 z hi0 hz0 hs0 none 0 0 m [] w (by omega) (by omega) (by simpa using hnb) (by omega) (by simp) (fun _=>rfl) (fun a ha=>by cases ha)).mono ?_
   rintro e w' ⟨rfl,rfl⟩
   exact ⟨_,rfl,new 0 [] hm (by simp)⟩
 ·have h1:xs.getD 0 Go.undef=.slice (some ⟨b,0,none⟩) 0 cap:=h1
  rw [hxs,hx1]
  rw [h1] at r2' o2' ⊢
  rcases Nat.lt_or_ge cap m with hm | hm
  ·refine (Any8.slices_Grow_grow L i0 z hi0 hz0 hs0 (some ⟨b,0,none⟩) 0 cap m cur.toList w (by omega) (by omega) (by simpa using hnb) (by omega) (by simpa using h4) (fun h=>by cases h) (fun a ha j v hj=>?_)).mono ?_
   ·cases ha
    rw [Array.getElem?_toList] at hj
    have hj':(if j=0 then (⟨b,0,none⟩:Addr) else ⟨b,j,none⟩)=⟨b,j,none⟩:=by
     split
     ·rename_i h0; rw [h0]
     ·rfl
    simp [World.cell?,Addr.add,hj',hh,hj]
   ·rintro e w' ⟨rfl,rfl⟩
    exact ⟨_,rfl,new cap cur.toList hm (by simpa using h4)⟩
  ·refine (Any8.slices_Grow_room L (some ⟨b,0,none⟩) 0 cap m w (by omega) (by omega) (by omega) (by omega)).mono ?_
   rintro e w' ⟨rfl,rfl⟩
   exact ⟨_,rfl,same (s := Zv.let_ ⟨[.own i0.size []],hp,none,hp.length⟩ 0) rfl rfl i2 r2' o2'⟩
end Go.Proofs.YtlmfmmclnboglaaGreat.Abs
end
