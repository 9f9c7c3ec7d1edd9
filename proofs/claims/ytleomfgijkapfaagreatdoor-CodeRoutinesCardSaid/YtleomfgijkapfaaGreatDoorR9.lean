import Derived.Test.YtleomfgijkapfaaGreatDoorProg
import Derived.ProofKit
import Derived.Test.YtleomfgijkapfaaGreatDoorR8
set_option linter.all false
section
namespace Go.Proofs.YtleomfgijkapfaaGreatDoor
open Go Go.RowKit Go.Proofs.YtleomfgijkapfaaGreatDoor.Abs
open Nat (reduceAdd reduceLeDiff)
set_option maxRecDepth 100000
set_option maxHeartbeats 0
theorem ZmT {α:Type _}{l:List α}{n:Nat}(h:l.length=n + 1):∃ a r,l=a :: r∧r.length=n:=by
 cases l with
 | nil=>simp at h
 | cons a r=>exact ⟨a,r,rfl,by simpa using h⟩
theorem J3 {P:Program}{t:TypeId}{l M:List AV}{k n:Nat}(h:Of P t ((l.drop k).take (P.cellsOf t)))(hn:P.cellsOf t=n)(hm:(l.drop k).take n=M):Of P t M:=by rw [hn,hm] at h; exact h
theorem ZoI {α:Type _}{l:List α}{n:Nat}(h:l.length=n + 2):∃ a b r,l=a :: b :: r∧r.length=n:=by
 obtain ⟨a,r,rfl,h1⟩:=ZmT h
 obtain ⟨b,s,rfl,h2⟩:=ZmT h1
 exact ⟨a,b,s,rfl,h2⟩
theorem ZoJ {α:Type _}{l:List α}{n:Nat}(h:l.length=n + 3):∃ a b c r,l=a :: b :: c :: r∧r.length=n:=by
 obtain ⟨a,b,r,rfl,h1⟩:=ZoI h
 obtain ⟨c,s,rfl,h2⟩:=ZmT h1
 exact ⟨a,b,c,s,rfl,h2⟩
theorem TP {α:Type _}{l:List α}{n:Nat}(h:l.length=n + 4):∃ a b c d r,l=a :: b :: c :: d :: r∧r.length=n:=by
 obtain ⟨a,b,r,rfl,h1⟩:=ZoI h
 obtain ⟨c,d,s,rfl,h2⟩:=ZoI h1
 exact ⟨a,b,c,d,s,rfl,h2⟩
theorem ZsD {cs:List AV}{w k:Nat}{rows:List (List AV)}{r:List AV}(h1:AV.lst w rows ∈ cs)(h2:r ∈ rows)(h3:SizeOf.sizeOf cs≤k + 1):SizeOf.sizeOf r≤k:=by
 have a1:=List.sizeOf_lt_of_mem h1
 have a2:=List.sizeOf_lt_of_mem h2
 have a3:SizeOf.sizeOf (AV.lst w rows)=1 + SizeOf.sizeOf w + SizeOf.sizeOf rows:=by simp
 omega
theorem Xt {α:Type}{Q:List AV→Prop}{row:α→List AV}{ok:α→Prop}:∀ {rows:List (List AV)},(∀ r ∈ rows,Q r→∃ x,r=row x∧ok x)→(∀ r ∈ rows,Q r)→∃ l:List α,rows=l.map row∧∀ x ∈ l,ok x
 | [],_,_=>⟨[],rfl,fun x h=>by cases h⟩
 | r :: rs,hq,h=>by
  obtain ⟨x,h1,h2⟩:=hq r (List.mem_cons_self ..) (h r (List.mem_cons_self ..))
  obtain ⟨l,h3,h4⟩:=Xt (rows := rs) (fun y hy=>hq y (List.mem_cons_of_mem _ hy)) fun y hy=>h y (List.mem_cons_of_mem _ hy)
  exact ⟨x :: l,by rw [h1,h3]; rfl,fun y hy=>by
   rcases List.mem_cons.1 hy with rfl | hy
   ·exact h2
   ·exact h4 y hy⟩
def Zxr:List TypeId:=[25,9,22,58,55,46,140,124,3,47,166,162,231,164,75,72,73,48,169,167,49,171,50,51,65,62,126,63,122,120,71,68,69,4,52,175,53,179,177,233,56,32,30,77,67,23,60,84,81,82,202,97,95,152,87]
theorem Zqw:Zxp Tryz.prog Zxr=true:=by kernel_rfl
theorem Zoc:Tryz.prog.bytesOf 3=8:=by kernel_rfl
theorem ZkD:Tryz.prog.cellsOf 3=1:=by kernel_rfl
theorem ZfD:Tryz.prog.bytesOf 9=16:=by kernel_rfl
theorem Zb9:Tryz.prog.cellsOf 9=1:=by kernel_rfl
theorem Zui:Tryz.prog.bytesOf 32=56:=by kernel_rfl
theorem Zsf:Tryz.prog.cellsOf 32=4:=by kernel_rfl
theorem Zuj:Tryz.prog.bytesOf 58=328:=by kernel_rfl
theorem Zsg:Tryz.prog.cellsOf 58=14:=by kernel_rfl
theorem Zuk:Tryz.prog.bytesOf 60=24:=by kernel_rfl
theorem Zsh:Tryz.prog.cellsOf 60=3:=by kernel_rfl
theorem Zul:Tryz.prog.bytesOf 65=88:=by kernel_rfl
theorem Zsi:Tryz.prog.cellsOf 65=4:=by kernel_rfl
theorem Zkv:Tryz.prog.bytesOf 71=56:=by kernel_rfl
theorem Zg7:Tryz.prog.cellsOf 71=4:=by kernel_rfl
theorem Zum:Tryz.prog.bytesOf 77=256:=by kernel_rfl
theorem Zsj:Tryz.prog.cellsOf 77=20:=by kernel_rfl
theorem ZfC:Tryz.prog.bytesOf 122=312:=by kernel_rfl
theorem ZcI:Tryz.prog.cellsOf 122=21:=by kernel_rfl
theorem Zme:Tryz.prog.bytesOf 126=24:=by kernel_rfl
theorem ZjB:Tryz.prog.cellsOf 126=2:=by kernel_rfl
theorem ZrT:Tryz.prog.bytesOf 140=32:=by kernel_rfl
theorem ZqT:Tryz.prog.cellsOf 140=3:=by kernel_rfl
theorem ZrU:Tryz.prog.bytesOf 166=232:=by kernel_rfl
theorem ZqU:Tryz.prog.cellsOf 166=17:=by kernel_rfl
theorem ZrV:Tryz.prog.bytesOf 169=32:=by kernel_rfl
theorem ZqV:Tryz.prog.cellsOf 169=3:=by kernel_rfl
theorem ZrW:Tryz.prog.bytesOf 171=32:=by kernel_rfl
theorem ZqW:Tryz.prog.cellsOf 171=3:=by kernel_rfl
theorem ZrX:Tryz.prog.bytesOf 175=64:=by kernel_rfl
theorem ZqX:Tryz.prog.cellsOf 175=5:=by kernel_rfl
theorem ZrY:Tryz.prog.bytesOf 179=48:=by kernel_rfl
theorem ZqY:Tryz.prog.cellsOf 179=3:=by kernel_rfl
theorem ZrZ:Tryz.prog.bytesOf 231=16:=by kernel_rfl
theorem ZqZ:Tryz.prog.cellsOf 231=2:=by kernel_rfl
theorem Zsa:Tryz.prog.bytesOf 233=40:=by kernel_rfl
theorem Zra:Tryz.prog.cellsOf 233=3:=by kernel_rfl
theorem Zxo {cs:List AV}(h:Of Tryz.prog 3 cs):∃ x:Int,cs=[.int .i64 x]∧(-9223372036854775808≤x∧x≤9223372036854775807):=h.toI64 Tryz.underlying3
theorem ZsU {cs:List AV}(h:Of Tryz.prog 9 cs):∃ x:List UInt8,cs=[.str x]∧x.length≤140737488351232:=h.toStr Tryz.underlying9
theorem ZuT {cs:List AV}(h:Of Tryz.prog 140 cs):∃ x,cs=Zkc x∧ZnQ x:=by
 obtain ⟨hl,hf⟩:=h.toStruct Tryz.underlying140
 rw [show Tryz.prog.cellsOf 140=3 from by kernel_rfl] at hl
 obtain ⟨c0,c1,c2,r0,rfl,hl0⟩:=ZoJ hl
 obtain rfl:=List.eq_nil_of_length_eq_zero hl0
 have f0:Of Tryz.prog 9 [c0]:=J3 (hf 0 _ rfl) (n := 1) (by kernel_rfl) rfl
 obtain ⟨v0,q0,b0⟩:=f0.toStr Tryz.underlying9
 have f1:Of Tryz.prog 124 [c1]:=J3 (hf 1 _ rfl) (n := 1) (by kernel_rfl) rfl
 obtain ⟨v1,q1,b1⟩:=f1.toI64 Tryz.underlying124
 have f2:Of Tryz.prog 3 [c2]:=J3 (hf 2 _ rfl) (n := 1) (by kernel_rfl) rfl
 obtain ⟨v2,q2,b2⟩:=f2.toI64 Tryz.underlying3
 refine ⟨⟨v0,v1,v2⟩,?_,⟨b0,b1,b2⟩⟩
 have hc:([c0,c1,c2]:List AV)=[c0] ++ [c1] ++ [c2]:=rfl
 rw [hc]
 rw [q0,q1,q2]
 rfl
theorem ZsS {cs:List AV}(h:Of Tryz.prog 231 cs):∃ x,cs=Zpk x∧ZpM x:=by
 obtain ⟨hl,hf⟩:=h.toStruct Tryz.underlying231
 rw [show Tryz.prog.cellsOf 231=2 from by kernel_rfl] at hl
 obtain ⟨c0,c1,r0,rfl,hl0⟩:=ZoI hl
 obtain rfl:=List.eq_nil_of_length_eq_zero hl0
 have f0:Of Tryz.prog 3 [c0]:=J3 (hf 0 _ rfl) (n := 1) (by kernel_rfl) rfl
 obtain ⟨v0,q0,b0⟩:=f0.toI64 Tryz.underlying3
 have f1:Of Tryz.prog 3 [c1]:=J3 (hf 1 _ rfl) (n := 1) (by kernel_rfl) rfl
 obtain ⟨v1,q1,b1⟩:=f1.toI64 Tryz.underlying3
 refine ⟨⟨v0,v1⟩,?_,⟨b0,b1⟩⟩
 have hc:([c0,c1]:List AV)=[c0] ++ [c1]:=rfl
 rw [hc]
 rw [q0,q1]
 rfl
theorem Zld {cs:List AV}(h:Of Tryz.prog 75 cs):∃ x,cs=Jv x∧OI x:=by
 obtain ⟨hl,hf⟩:=h.toStruct Tryz.underlying75
 rw [show Tryz.prog.cellsOf 75=6 from by kernel_rfl] at hl
 obtain ⟨c0,c1,c2,c3,r0,rfl,hl0⟩:=TP hl
 obtain ⟨c4,c5,r4,rfl,hl4⟩:=ZoI hl0
 obtain rfl:=List.eq_nil_of_length_eq_zero hl4
 have f0:Of Tryz.prog 72 [c0]:=J3 (hf 0 _ rfl) (n := 1) (by kernel_rfl) rfl
 obtain ⟨v0,q0,b0⟩:=f0.toI64 Tryz.underlying72
 have f1:Of Tryz.prog 3 [c1]:=J3 (hf 1 _ rfl) (n := 1) (by kernel_rfl) rfl
 obtain ⟨v1,q1,b1⟩:=f1.toI64 Tryz.underlying3
 have f2:Of Tryz.prog 3 [c2]:=J3 (hf 2 _ rfl) (n := 1) (by kernel_rfl) rfl
 obtain ⟨v2,q2,b2⟩:=f2.toI64 Tryz.underlying3
 have f3:Of Tryz.prog 3 [c3]:=J3 (hf 3 _ rfl) (n := 1) (by kernel_rfl) rfl
 obtain ⟨v3,q3,b3⟩:=f3.toI64 Tryz.underlying3
 have f4:Of Tryz.prog 73 [c4]:=J3 (hf 4 _ rfl) (n := 1) (by kernel_rfl) rfl
 obtain ⟨w4,q4,b4,m4⟩:=f4.toSlice Tryz.underlying73
 rw [ZkD] at q4
 rw [Zoc] at b4
 obtain ⟨v4,e4,n4⟩:=Xt (row := (fun x=>[.int .i64 x])) (fun r hr hq=>Zxo hq) m4
 replace b4:v4.length * 8≤140737488351232:=by rw [e4,List.length_map] at b4; exact b4
 have f5:Of Tryz.prog 73 [c5]:=J3 (hf 5 _ rfl) (n := 1) (by kernel_rfl) rfl
 obtain ⟨w5,q5,b5,m5⟩:=f5.toSlice Tryz.underlying73
 rw [ZkD] at q5
 rw [Zoc] at b5
 obtain ⟨v5,e5,n5⟩:=Xt (row := (fun x=>[.int .i64 x])) (fun r hr hq=>Zxo hq) m5
 replace b5:v5.length * 8≤140737488351232:=by rw [e5,List.length_map] at b5; exact b5
 refine ⟨⟨v0,v1,v2,v3,v4,v5⟩,?_,⟨b0,b1,b2,b3,⟨b4,n4⟩,⟨b5,n5⟩⟩⟩
 have hc:([c0,c1,c2,c3,c4,c5]:List AV)=[c0] ++ [c1] ++ [c2] ++ [c3] ++ [c4] ++ [c5]:=rfl
 rw [hc]
 rw [q0,q1,q2,q3,q4,q5]
 rw [e4,e5]
 rfl
theorem ZuQ {cs:List AV}(h:Of Tryz.prog 164 cs):∃ x,cs=Zty x∧ZrO x:=by
 obtain ⟨hl,hf⟩:=h.toStruct Tryz.underlying164
 rw [show Tryz.prog.cellsOf 164=13 from by kernel_rfl] at hl
 obtain ⟨c0,c1,c2,c3,r0,rfl,hl0⟩:=TP hl
 obtain ⟨c4,c5,c6,c7,r4,rfl,hl4⟩:=TP hl0
 obtain ⟨c8,c9,c10,c11,r8,rfl,hl8⟩:=TP hl4
 obtain ⟨c12,r12,rfl,hl12⟩:=ZmT hl8
 obtain rfl:=List.eq_nil_of_length_eq_zero hl12
 have f0:Of Tryz.prog 9 [c0]:=J3 (hf 0 _ rfl) (n := 1) (by kernel_rfl) rfl
 obtain ⟨v0,q0,b0⟩:=f0.toStr Tryz.underlying9
 have f1:Of Tryz.prog 75 [c1,c2,c3,c4,c5,c6]:=J3 (hf 1 _ rfl) (n := 6) (by kernel_rfl) rfl
 obtain ⟨v1,q1,b1⟩:=Zld f1
 have f2:Of Tryz.prog 75 [c7,c8,c9,c10,c11,c12]:=J3 (hf 2 _ rfl) (n := 6) (by kernel_rfl) rfl
 obtain ⟨v2,q2,b2⟩:=Zld f2
 refine ⟨⟨v0,v1,v2⟩,?_,⟨b0,b1,b2⟩⟩
 have hc:([c0,c1,c2,c3,c4,c5,c6,c7,c8,c9,c10,c11,c12]:List AV)=[c0] ++ [c1,c2,c3,c4,c5,c6] ++ [c7,c8,c9,c10,c11,c12]:=rfl
 rw [hc]
 rw [q0,q1,q2]
 unfold Zty; simp only [List.append_assoc,List.cons_append,List.nil_append]
theorem Zhs {cs:List AV}(h:Of Tryz.prog 166 cs):∃ x,cs=Ib x∧MN x:=by
 obtain ⟨hl,hf⟩:=h.toStruct Tryz.underlying166
 rw [show Tryz.prog.cellsOf 166=17 from by kernel_rfl] at hl
 obtain ⟨c0,c1,c2,c3,r0,rfl,hl0⟩:=TP hl
 obtain ⟨c4,c5,c6,c7,r4,rfl,hl4⟩:=TP hl0
 obtain ⟨c8,c9,c10,c11,r8,rfl,hl8⟩:=TP hl4
 obtain ⟨c12,c13,c14,c15,r12,rfl,hl12⟩:=TP hl8
 obtain ⟨c16,r16,rfl,hl16⟩:=ZmT hl12
 obtain rfl:=List.eq_nil_of_length_eq_zero hl16
 have f0:Of Tryz.prog 9 [c0]:=J3 (hf 0 _ rfl) (n := 1) (by kernel_rfl) rfl
 obtain ⟨v0,q0,b0⟩:=f0.toStr Tryz.underlying9
 have f1:Of Tryz.prog 3 [c1]:=J3 (hf 1 _ rfl) (n := 1) (by kernel_rfl) rfl
 obtain ⟨v1,q1,b1⟩:=f1.toI64 Tryz.underlying3
 have f2:Of Tryz.prog 162 [c2]:=J3 (hf 2 _ rfl) (n := 1) (by kernel_rfl) rfl
 obtain ⟨w2,q2,b2,m2⟩:=f2.toSlice Tryz.underlying162
 rw [ZqZ] at q2
 rw [ZrZ] at b2
 obtain ⟨v2,e2,n2⟩:=Xt (row := Zpk) (fun r hr hq=>ZsS hq) m2
 replace b2:v2.length * 16≤140737488351232:=by rw [e2,List.length_map] at b2; exact b2
 have f3:Of Tryz.prog 3 [c3]:=J3 (hf 3 _ rfl) (n := 1) (by kernel_rfl) rfl
 obtain ⟨v3,q3,b3⟩:=f3.toI64 Tryz.underlying3
 have f4:Of Tryz.prog 164 [c4,c5,c6,c7,c8,c9,c10,c11,c12,c13,c14,c15,c16]:=J3 (hf 4 _ rfl) (n := 13) (by kernel_rfl) rfl
 obtain ⟨v4,q4,b4⟩:=ZuQ f4
 refine ⟨⟨v0,v1,v2,v3,v4⟩,?_,⟨b0,b1,⟨b2,n2⟩,b3,b4⟩⟩
 have hc:([c0,c1,c2,c3,c4,c5,c6,c7,c8,c9,c10,c11,c12,c13,c14,c15,c16]:List AV)=[c0] ++ [c1] ++ [c2] ++ [c3] ++ [c4,c5,c6,c7,c8,c9,c10,c11,c12,c13,c14,c15,c16]:=rfl
 rw [hc]
 rw [q0,q1,q2,q3,q4]
 rw [e2]
 unfold Ib; simp only [List.append_assoc,List.cons_append,List.nil_append]
theorem ZmY {cs:List AV}(h:Of Tryz.prog 169 cs):∃ x,cs=P8 x∧Zfj x:=by
 obtain ⟨hl,hf⟩:=h.toStruct Tryz.underlying169
 rw [show Tryz.prog.cellsOf 169=3 from by kernel_rfl] at hl
 obtain ⟨c0,c1,c2,r0,rfl,hl0⟩:=ZoJ hl
 obtain rfl:=List.eq_nil_of_length_eq_zero hl0
 have f0:Of Tryz.prog 9 [c0]:=J3 (hf 0 _ rfl) (n := 1) (by kernel_rfl) rfl
 obtain ⟨v0,q0,b0⟩:=f0.toStr Tryz.underlying9
 have f1:Of Tryz.prog 3 [c1]:=J3 (hf 1 _ rfl) (n := 1) (by kernel_rfl) rfl
 obtain ⟨v1,q1,b1⟩:=f1.toI64 Tryz.underlying3
 have f2:Of Tryz.prog 167 [c2]:=J3 (hf 2 _ rfl) (n := 1) (by kernel_rfl) rfl
 obtain ⟨v2,q2,b2⟩:=f2.toI64 Tryz.underlying167
 refine ⟨⟨v0,v1,v2⟩,?_,⟨b0,b1,b2⟩⟩
 have hc:([c0,c1,c2]:List AV)=[c0] ++ [c1] ++ [c2]:=rfl
 rw [hc]
 rw [q0,q1,q2]
 rfl
theorem ZoM {cs:List AV}(h:Of Tryz.prog 171 cs):∃ x,cs=EZ x∧Zjx x:=by
 obtain ⟨hl,hf⟩:=h.toStruct Tryz.underlying171
 rw [show Tryz.prog.cellsOf 171=3 from by kernel_rfl] at hl
 obtain ⟨c0,c1,c2,r0,rfl,hl0⟩:=ZoJ hl
 obtain rfl:=List.eq_nil_of_length_eq_zero hl0
 have f0:Of Tryz.prog 9 [c0]:=J3 (hf 0 _ rfl) (n := 1) (by kernel_rfl) rfl
 obtain ⟨v0,q0,b0⟩:=f0.toStr Tryz.underlying9
 have f1:Of Tryz.prog 3 [c1]:=J3 (hf 1 _ rfl) (n := 1) (by kernel_rfl) rfl
 obtain ⟨v1,q1,b1⟩:=f1.toI64 Tryz.underlying3
 have f2:Of Tryz.prog 3 [c2]:=J3 (hf 2 _ rfl) (n := 1) (by kernel_rfl) rfl
 obtain ⟨v2,q2,b2⟩:=f2.toI64 Tryz.underlying3
 refine ⟨⟨v0,v1,v2⟩,?_,⟨b0,b1,b2⟩⟩
 have hc:([c0,c1,c2]:List AV)=[c0] ++ [c1] ++ [c2]:=rfl
 rw [hc]
 rw [q0,q1,q2]
 rfl
theorem Zqv {cs:List AV}(h:Of Tryz.prog 126 cs):∃ x,cs=Zh6 x∧ZnO x:=by
 obtain ⟨hl,hf⟩:=h.toStruct Tryz.underlying126
 rw [show Tryz.prog.cellsOf 126=2 from by kernel_rfl] at hl
 obtain ⟨c0,c1,r0,rfl,hl0⟩:=ZoI hl
 obtain rfl:=List.eq_nil_of_length_eq_zero hl0
 have f0:Of Tryz.prog 9 [c0]:=J3 (hf 0 _ rfl) (n := 1) (by kernel_rfl) rfl
 obtain ⟨v0,q0,b0⟩:=f0.toStr Tryz.underlying9
 have f1:Of Tryz.prog 124 [c1]:=J3 (hf 1 _ rfl) (n := 1) (by kernel_rfl) rfl
 obtain ⟨v1,q1,b1⟩:=f1.toI64 Tryz.underlying124
 refine ⟨⟨v0,v1⟩,?_,⟨b0,b1⟩⟩
 have hc:([c0,c1]:List AV)=[c0] ++ [c1]:=rfl
 rw [hc]
 rw [q0,q1]
 rfl
theorem ZaV:∀ (k:Nat) {cs:List AV},SizeOf.sizeOf cs≤k→Of Tryz.prog 71 cs→∃ x,cs=Zt x∧Y2 x
 | 0,cs,hk,h=>by
  obtain ⟨hl,_⟩:=h.toStruct Tryz.underlying71
  rw [show Tryz.prog.cellsOf 71=4 from by kernel_rfl] at hl
  cases cs with
  | nil=>simp at hl
  | cons a r=>simp at hk
 | k + 1,cs,hk,h=>by
  obtain ⟨hl,hf⟩:=h.toStruct Tryz.underlying71
  rw [show Tryz.prog.cellsOf 71=4 from by kernel_rfl] at hl
  obtain ⟨c0,c1,c2,c3,r0,rfl,hl0⟩:=TP hl
  obtain rfl:=List.eq_nil_of_length_eq_zero hl0
  have f0:Of Tryz.prog 68 [c0]:=J3 (hf 0 _ rfl) (n := 1) (by kernel_rfl) rfl
  obtain ⟨v0,q0,b0⟩:=f0.toI64 Tryz.underlying68
  have f1:Of Tryz.prog 9 [c1]:=J3 (hf 1 _ rfl) (n := 1) (by kernel_rfl) rfl
  obtain ⟨v1,q1,b1⟩:=f1.toStr Tryz.underlying9
  have f2:Of Tryz.prog 3 [c2]:=J3 (hf 2 _ rfl) (n := 1) (by kernel_rfl) rfl
  obtain ⟨v2,q2,b2⟩:=f2.toI64 Tryz.underlying3
  have f3:Of Tryz.prog 69 [c3]:=J3 (hf 3 _ rfl) (n := 1) (by kernel_rfl) rfl
  obtain ⟨w3,q3,b3,m3⟩:=f3.toSlice Tryz.underlying69
  rw [Zg7] at q3
  rw [Zkv] at b3
  obtain ⟨v3,e3,n3⟩:=Xt (row := Zt) (ok := Y2) (fun r hr hq=>ZaV k (ZsD (w := 4) (rows := w3) (by simp [(List.cons.inj q3).1]) hr hk) hq) m3
  replace b3:v3.length * 56≤140737488351232:=by rw [e3,List.length_map] at b3; exact b3
  refine ⟨⟨v0,v1,v2,v3⟩,?_,⟨_,b0,b1,b2,b3,n3⟩⟩
  have hc:([c0,c1,c2,c3]:List AV)=[c0] ++ [c1] ++ [c2] ++ [c3]:=rfl
  rw [hc]
  rw [q0,q1,q2,q3]
  rw [e3]
  rw [Y1]; rfl
theorem ZoP:∀ (k:Nat) {cs:List AV},SizeOf.sizeOf cs≤k→Of Tryz.prog 122 cs→∃ x,cs=XZ x∧XA x
 | 0,cs,hk,h=>by
  obtain ⟨hl,_⟩:=h.toStruct Tryz.underlying122
  rw [show Tryz.prog.cellsOf 122=21 from by kernel_rfl] at hl
  cases cs with
  | nil=>simp at hl
  | cons a r=>simp at hk
 | k + 1,cs,hk,h=>by
  obtain ⟨hl,hf⟩:=h.toStruct Tryz.underlying122
  rw [show Tryz.prog.cellsOf 122=21 from by kernel_rfl] at hl
  obtain ⟨c0,c1,c2,c3,r0,rfl,hl0⟩:=TP hl
  obtain ⟨c4,c5,c6,c7,r4,rfl,hl4⟩:=TP hl0
  obtain ⟨c8,c9,c10,c11,r8,rfl,hl8⟩:=TP hl4
  obtain ⟨c12,c13,c14,c15,r12,rfl,hl12⟩:=TP hl8
  obtain ⟨c16,c17,c18,c19,r16,rfl,hl16⟩:=TP hl12
  obtain ⟨c20,r20,rfl,hl20⟩:=ZmT hl16
  obtain rfl:=List.eq_nil_of_length_eq_zero hl20
  have f0:Of Tryz.prog 120 [c0]:=J3 (hf 0 _ rfl) (n := 1) (by kernel_rfl) rfl
  obtain ⟨v0,q0,b0⟩:=f0.toI64 Tryz.underlying120
  have f1:Of Tryz.prog 9 [c1]:=J3 (hf 1 _ rfl) (n := 1) (by kernel_rfl) rfl
  obtain ⟨v1,q1,b1⟩:=f1.toStr Tryz.underlying9
  have f2:Of Tryz.prog 9 [c2]:=J3 (hf 2 _ rfl) (n := 1) (by kernel_rfl) rfl
  obtain ⟨v2,q2,b2⟩:=f2.toStr Tryz.underlying9
  have f3:Of Tryz.prog 71 [c3,c4,c5,c6]:=J3 (hf 3 _ rfl) (n := 4) (by kernel_rfl) rfl
  obtain ⟨v3,q3,b3⟩:=ZaV _ (Nat.le_refl _) f3
  have f4:Of Tryz.prog 71 [c7,c8,c9,c10]:=J3 (hf 4 _ rfl) (n := 4) (by kernel_rfl) rfl
  obtain ⟨v4,q4,b4⟩:=ZaV _ (Nat.le_refl _) f4
  have f5:Of Tryz.prog 69 [c11]:=J3 (hf 5 _ rfl) (n := 1) (by kernel_rfl) rfl
  obtain ⟨w5,q5,b5,m5⟩:=f5.toSlice Tryz.underlying69
  rw [Zg7] at q5
  rw [Zkv] at b5
  obtain ⟨v5,e5,n5⟩:=Xt (row := Zt) (ok := Y2) (fun r hr hq=>ZaV _ (Nat.le_refl _) hq) m5
  replace b5:v5.length * 56≤140737488351232:=by rw [e5,List.length_map] at b5; exact b5
  have f6:Of Tryz.prog 75 [c12,c13,c14,c15,c16,c17]:=J3 (hf 6 _ rfl) (n := 6) (by kernel_rfl) rfl
  obtain ⟨v6,q6,b6⟩:=Zld f6
  have f7:Of Tryz.prog 4 [c18]:=J3 (hf 7 _ rfl) (n := 1) (by kernel_rfl) rfl
  obtain ⟨v7,q7⟩:=f7.toBool Tryz.underlying4
  have b7:True:=trivial
  have f8:Of Tryz.prog 63 [c19]:=J3 (hf 8 _ rfl) (n := 1) (by kernel_rfl) rfl
  obtain ⟨w8,q8,b8,m8⟩:=f8.toSlice Tryz.underlying63
  rw [ZcI] at q8
  rw [ZfC] at b8
  obtain ⟨v8,e8,n8⟩:=Xt (row := XZ) (ok := XA) (fun r hr hq=>ZoP k (ZsD (w := 21) (rows := w8) (by simp [(List.cons.inj q8).1]) hr hk) hq) m8
  replace b8:v8.length * 312≤140737488351232:=by rw [e8,List.length_map] at b8; exact b8
  have f9:Of Tryz.prog 63 [c20]:=J3 (hf 9 _ rfl) (n := 1) (by kernel_rfl) rfl
  obtain ⟨w9,q9,b9,m9⟩:=f9.toSlice Tryz.underlying63
  rw [ZcI] at q9
  rw [ZfC] at b9
  obtain ⟨v9,e9,n9⟩:=Xt (row := XZ) (ok := XA) (fun r hr hq=>ZoP k (ZsD (w := 21) (rows := w9) (by simp [(List.cons.inj q9).1]) hr hk) hq) m9
  replace b9:v9.length * 312≤140737488351232:=by rw [e9,List.length_map] at b9; exact b9
  refine ⟨⟨v0,v1,v2,v3,v4,v5,v6,v7,v8,v9⟩,?_,⟨_,b0,b1,b2,b3,b4,b5,n5,b6,b7,b8,n8,b9,n9⟩⟩
  have hc:([c0,c1,c2,c3,c4,c5,c6,c7,c8,c9,c10,c11,c12,c13,c14,c15,c16,c17,c18,c19,c20]:List AV)=[c0] ++ [c1] ++ [c2] ++ [c3,c4,c5,c6] ++ [c7,c8,c9,c10] ++ [c11] ++ [c12,c13,c14,c15,c16,c17] ++ [c18] ++ [c19] ++ [c20]:=rfl
  rw [hc]
  rw [q0,q1,q2,q3,q4,q5,q6,q7,q8,q9]
  rw [e5,e8,e9]
  rw [KZ]; simp only [List.append_assoc,List.cons_append,List.nil_append]
theorem Zrq {cs:List AV}(h:Of Tryz.prog 65 cs):∃ x,cs=Vj x∧Zbg x:=by
 obtain ⟨hl,hf⟩:=h.toStruct Tryz.underlying65
 rw [show Tryz.prog.cellsOf 65=4 from by kernel_rfl] at hl
 obtain ⟨c0,c1,c2,c3,r0,rfl,hl0⟩:=TP hl
 obtain rfl:=List.eq_nil_of_length_eq_zero hl0
 have f0:Of Tryz.prog 9 [c0]:=J3 (hf 0 _ rfl) (n := 1) (by kernel_rfl) rfl
 obtain ⟨v0,q0,b0⟩:=f0.toStr Tryz.underlying9
 have f1:Of Tryz.prog 62 [c1]:=J3 (hf 1 _ rfl) (n := 1) (by kernel_rfl) rfl
 obtain ⟨w1,q1,b1,m1⟩:=f1.toSlice Tryz.underlying62
 rw [ZjB] at q1
 rw [Zme] at b1
 obtain ⟨v1,e1,n1⟩:=Xt (row := Zh6) (fun r hr hq=>Zqv hq) m1
 replace b1:v1.length * 24≤140737488351232:=by rw [e1,List.length_map] at b1; exact b1
 have f2:Of Tryz.prog 62 [c2]:=J3 (hf 2 _ rfl) (n := 1) (by kernel_rfl) rfl
 obtain ⟨w2,q2,b2,m2⟩:=f2.toSlice Tryz.underlying62
 rw [ZjB] at q2
 rw [Zme] at b2
 obtain ⟨v2,e2,n2⟩:=Xt (row := Zh6) (fun r hr hq=>Zqv hq) m2
 replace b2:v2.length * 24≤140737488351232:=by rw [e2,List.length_map] at b2; exact b2
 have f3:Of Tryz.prog 63 [c3]:=J3 (hf 3 _ rfl) (n := 1) (by kernel_rfl) rfl
 obtain ⟨w3,q3,b3,m3⟩:=f3.toSlice Tryz.underlying63
 rw [ZcI] at q3
 rw [ZfC] at b3
 obtain ⟨v3,e3,n3⟩:=Xt (row := XZ) (ok := XA) (fun r hr hq=>ZoP _ (Nat.le_refl _) hq) m3
 replace b3:v3.length * 312≤140737488351232:=by rw [e3,List.length_map] at b3; exact b3
 refine ⟨⟨v0,v1,v2,v3⟩,?_,⟨b0,⟨b1,n1⟩,⟨b2,n2⟩,⟨b3,n3⟩⟩⟩
 have hc:([c0,c1,c2,c3]:List AV)=[c0] ++ [c1] ++ [c2] ++ [c3]:=rfl
 rw [hc]
 rw [q0,q1,q2,q3]
 rw [e1,e2,e3]
 rfl
theorem ZuS {cs:List AV}(h:Of Tryz.prog 175 cs):∃ x,cs=ZjZ x∧Zfi x:=by
 obtain ⟨hl,hf⟩:=h.toStruct Tryz.underlying175
 rw [show Tryz.prog.cellsOf 175=5 from by kernel_rfl] at hl
 obtain ⟨c0,c1,c2,c3,r0,rfl,hl0⟩:=TP hl
 obtain ⟨c4,r4,rfl,hl4⟩:=ZmT hl0
 obtain rfl:=List.eq_nil_of_length_eq_zero hl4
 have f0:Of Tryz.prog 9 [c0]:=J3 (hf 0 _ rfl) (n := 1) (by kernel_rfl) rfl
 obtain ⟨v0,q0,b0⟩:=f0.toStr Tryz.underlying9
 have f1:Of Tryz.prog 73 [c1]:=J3 (hf 1 _ rfl) (n := 1) (by kernel_rfl) rfl
 obtain ⟨w1,q1,b1,m1⟩:=f1.toSlice Tryz.underlying73
 rw [ZkD] at q1
 rw [Zoc] at b1
 obtain ⟨v1,e1,n1⟩:=Xt (row := (fun x=>[.int .i64 x])) (fun r hr hq=>Zxo hq) m1
 replace b1:v1.length * 8≤140737488351232:=by rw [e1,List.length_map] at b1; exact b1
 have f2:Of Tryz.prog 3 [c2]:=J3 (hf 2 _ rfl) (n := 1) (by kernel_rfl) rfl
 obtain ⟨v2,q2,b2⟩:=f2.toI64 Tryz.underlying3
 have f3:Of Tryz.prog 3 [c3]:=J3 (hf 3 _ rfl) (n := 1) (by kernel_rfl) rfl
 obtain ⟨v3,q3,b3⟩:=f3.toI64 Tryz.underlying3
 have f4:Of Tryz.prog 3 [c4]:=J3 (hf 4 _ rfl) (n := 1) (by kernel_rfl) rfl
 obtain ⟨v4,q4,b4⟩:=f4.toI64 Tryz.underlying3
 refine ⟨⟨v0,v1,v2,v3,v4⟩,?_,⟨b0,⟨b1,n1⟩,b2,b3,b4⟩⟩
 have hc:([c0,c1,c2,c3,c4]:List AV)=[c0] ++ [c1] ++ [c2] ++ [c3] ++ [c4]:=rfl
 rw [hc]
 rw [q0,q1,q2,q3,q4]
 rw [e1]
 rfl
theorem Zxn {cs:List AV}(h:Of Tryz.prog 233 cs):∃ x,cs=ZxS x∧ZvS x:=by
 obtain ⟨hl,hf⟩:=h.toStruct Tryz.underlying233
 rw [show Tryz.prog.cellsOf 233=3 from by kernel_rfl] at hl
 obtain ⟨c0,c1,c2,r0,rfl,hl0⟩:=ZoJ hl
 obtain rfl:=List.eq_nil_of_length_eq_zero hl0
 have f0:Of Tryz.prog 3 [c0]:=J3 (hf 0 _ rfl) (n := 1) (by kernel_rfl) rfl
 obtain ⟨v0,q0,b0⟩:=f0.toI64 Tryz.underlying3
 have f1:Of Tryz.prog 9 [c1]:=J3 (hf 1 _ rfl) (n := 1) (by kernel_rfl) rfl
 obtain ⟨v1,q1,b1⟩:=f1.toStr Tryz.underlying9
 have f2:Of Tryz.prog 9 [c2]:=J3 (hf 2 _ rfl) (n := 1) (by kernel_rfl) rfl
 obtain ⟨v2,q2,b2⟩:=f2.toStr Tryz.underlying9
 refine ⟨⟨v0,v1,v2⟩,?_,⟨b0,b1,b2⟩⟩
 have hc:([c0,c1,c2]:List AV)=[c0] ++ [c1] ++ [c2]:=rfl
 rw [hc]
 rw [q0,q1,q2]
 rfl
theorem Zzf {cs:List AV}(h:Of Tryz.prog 179 cs):∃ x,cs=Zys x∧ZrP x:=by
 obtain ⟨hl,hf⟩:=h.toStruct Tryz.underlying179
 rw [show Tryz.prog.cellsOf 179=3 from by kernel_rfl] at hl
 obtain ⟨c0,c1,c2,r0,rfl,hl0⟩:=ZoJ hl
 obtain rfl:=List.eq_nil_of_length_eq_zero hl0
 have f0:Of Tryz.prog 9 [c0]:=J3 (hf 0 _ rfl) (n := 1) (by kernel_rfl) rfl
 obtain ⟨v0,q0,b0⟩:=f0.toStr Tryz.underlying9
 have f1:Of Tryz.prog 177 [c1]:=J3 (hf 1 _ rfl) (n := 1) (by kernel_rfl) rfl
 obtain ⟨w1,q1,b1,m1⟩:=f1.toSlice Tryz.underlying177
 rw [Zra] at q1
 rw [Zsa] at b1
 obtain ⟨v1,e1,n1⟩:=Xt (row := ZxS) (fun r hr hq=>Zxn hq) m1
 replace b1:v1.length * 40≤140737488351232:=by rw [e1,List.length_map] at b1; exact b1
 have f2:Of Tryz.prog 3 [c2]:=J3 (hf 2 _ rfl) (n := 1) (by kernel_rfl) rfl
 obtain ⟨v2,q2,b2⟩:=f2.toI64 Tryz.underlying3
 refine ⟨⟨v0,v1,v2⟩,?_,⟨b0,⟨b1,n1⟩,b2⟩⟩
 have hc:([c0,c1,c2]:List AV)=[c0] ++ [c1] ++ [c2]:=rfl
 rw [hc]
 rw [q0,q1,q2]
 rw [e1]
 rfl
theorem ZoO {cs:List AV}(h:Of Tryz.prog 55 cs):∃ x,cs=Yh x∧Oj x:=by
 obtain ⟨hl,hf⟩:=h.toStruct Tryz.underlying55
 rw [show Tryz.prog.cellsOf 55=13 from by kernel_rfl] at hl
 obtain ⟨c0,c1,c2,c3,r0,rfl,hl0⟩:=TP hl
 obtain ⟨c4,c5,c6,c7,r4,rfl,hl4⟩:=TP hl0
 obtain ⟨c8,c9,c10,c11,r8,rfl,hl8⟩:=TP hl4
 obtain ⟨c12,r12,rfl,hl12⟩:=ZmT hl8
 obtain rfl:=List.eq_nil_of_length_eq_zero hl12
 have f0:Of Tryz.prog 9 [c0]:=J3 (hf 0 _ rfl) (n := 1) (by kernel_rfl) rfl
 obtain ⟨v0,q0,b0⟩:=f0.toStr Tryz.underlying9
 have f1:Of Tryz.prog 46 [c1]:=J3 (hf 1 _ rfl) (n := 1) (by kernel_rfl) rfl
 obtain ⟨w1,q1,b1,m1⟩:=f1.toSlice Tryz.underlying46
 rw [ZqT] at q1
 rw [ZrT] at b1
 obtain ⟨v1,e1,n1⟩:=Xt (row := Zkc) (fun r hr hq=>ZuT hq) m1
 replace b1:v1.length * 32≤140737488351232:=by rw [e1,List.length_map] at b1; exact b1
 have f2:Of Tryz.prog 47 [c2]:=J3 (hf 2 _ rfl) (n := 1) (by kernel_rfl) rfl
 obtain ⟨w2,q2,b2,m2⟩:=f2.toSlice Tryz.underlying47
 rw [ZqU] at q2
 rw [ZrU] at b2
 obtain ⟨v2,e2,n2⟩:=Xt (row := Ib) (fun r hr hq=>Zhs hq) m2
 replace b2:v2.length * 232≤140737488351232:=by rw [e2,List.length_map] at b2; exact b2
 have f3:Of Tryz.prog 48 [c3]:=J3 (hf 3 _ rfl) (n := 1) (by kernel_rfl) rfl
 obtain ⟨w3,q3,b3,m3⟩:=f3.toSlice Tryz.underlying48
 rw [ZqV] at q3
 rw [ZrV] at b3
 obtain ⟨v3,e3,n3⟩:=Xt (row := P8) (fun r hr hq=>ZmY hq) m3
 replace b3:v3.length * 32≤140737488351232:=by rw [e3,List.length_map] at b3; exact b3
 have f4:Of Tryz.prog 49 [c4]:=J3 (hf 4 _ rfl) (n := 1) (by kernel_rfl) rfl
 obtain ⟨w4,q4,b4,m4⟩:=f4.toSlice Tryz.underlying49
 rw [ZqW] at q4
 rw [ZrW] at b4
 obtain ⟨v4,e4,n4⟩:=Xt (row := EZ) (fun r hr hq=>ZoM hq) m4
 replace b4:v4.length * 32≤140737488351232:=by rw [e4,List.length_map] at b4; exact b4
 have f5:Of Tryz.prog 50 [c5]:=J3 (hf 5 _ rfl) (n := 1) (by kernel_rfl) rfl
 obtain ⟨w5,q5,b5,m5⟩:=f5.toSlice Tryz.underlying50
 rw [Zb9] at q5
 rw [ZfD] at b5
 obtain ⟨v5,e5,n5⟩:=Xt (row := (fun x=>[.str x])) (fun r hr hq=>ZsU hq) m5
 replace b5:v5.length * 16≤140737488351232:=by rw [e5,List.length_map] at b5; exact b5
 have f6:Of Tryz.prog 50 [c6]:=J3 (hf 6 _ rfl) (n := 1) (by kernel_rfl) rfl
 obtain ⟨w6,q6,b6,m6⟩:=f6.toSlice Tryz.underlying50
 rw [Zb9] at q6
 rw [ZfD] at b6
 obtain ⟨v6,e6,n6⟩:=Xt (row := (fun x=>[.str x])) (fun r hr hq=>ZsU hq) m6
 replace b6:v6.length * 16≤140737488351232:=by rw [e6,List.length_map] at b6; exact b6
 have f7:Of Tryz.prog 50 [c7]:=J3 (hf 7 _ rfl) (n := 1) (by kernel_rfl) rfl
 obtain ⟨w7,q7,b7,m7⟩:=f7.toSlice Tryz.underlying50
 rw [Zb9] at q7
 rw [ZfD] at b7
 obtain ⟨v7,e7,n7⟩:=Xt (row := (fun x=>[.str x])) (fun r hr hq=>ZsU hq) m7
 replace b7:v7.length * 16≤140737488351232:=by rw [e7,List.length_map] at b7; exact b7
 have f8:Of Tryz.prog 50 [c8]:=J3 (hf 8 _ rfl) (n := 1) (by kernel_rfl) rfl
 obtain ⟨w8,q8,b8,m8⟩:=f8.toSlice Tryz.underlying50
 rw [Zb9] at q8
 rw [ZfD] at b8
 obtain ⟨v8,e8,n8⟩:=Xt (row := (fun x=>[.str x])) (fun r hr hq=>ZsU hq) m8
 replace b8:v8.length * 16≤140737488351232:=by rw [e8,List.length_map] at b8; exact b8
 have f9:Of Tryz.prog 50 [c9]:=J3 (hf 9 _ rfl) (n := 1) (by kernel_rfl) rfl
 obtain ⟨w9,q9,b9,m9⟩:=f9.toSlice Tryz.underlying50
 rw [Zb9] at q9
 rw [ZfD] at b9
 obtain ⟨v9,e9,n9⟩:=Xt (row := (fun x=>[.str x])) (fun r hr hq=>ZsU hq) m9
 replace b9:v9.length * 16≤140737488351232:=by rw [e9,List.length_map] at b9; exact b9
 have f10:Of Tryz.prog 51 [c10]:=J3 (hf 10 _ rfl) (n := 1) (by kernel_rfl) rfl
 obtain ⟨w10,q10,b10,m10⟩:=f10.toSlice Tryz.underlying51
 rw [Zsi] at q10
 rw [Zul] at b10
 obtain ⟨v10,e10,n10⟩:=Xt (row := Vj) (fun r hr hq=>Zrq hq) m10
 replace b10:v10.length * 88≤140737488351232:=by rw [e10,List.length_map] at b10; exact b10
 have f11:Of Tryz.prog 52 [c11]:=J3 (hf 11 _ rfl) (n := 1) (by kernel_rfl) rfl
 obtain ⟨w11,q11,b11,m11⟩:=f11.toSlice Tryz.underlying52
 rw [ZqX] at q11
 rw [ZrX] at b11
 obtain ⟨v11,e11,n11⟩:=Xt (row := ZjZ) (fun r hr hq=>ZuS hq) m11
 replace b11:v11.length * 64≤140737488351232:=by rw [e11,List.length_map] at b11; exact b11
 have f12:Of Tryz.prog 53 [c12]:=J3 (hf 12 _ rfl) (n := 1) (by kernel_rfl) rfl
 obtain ⟨w12,q12,b12,m12⟩:=f12.toSlice Tryz.underlying53
 rw [ZqY] at q12
 rw [ZrY] at b12
 obtain ⟨v12,e12,n12⟩:=Xt (row := Zys) (fun r hr hq=>Zzf hq) m12
 replace b12:v12.length * 48≤140737488351232:=by rw [e12,List.length_map] at b12; exact b12
 refine ⟨⟨v0,v1,v2,v3,v4,v5,v6,v7,v8,v9,v10,v11,v12⟩,?_,⟨b0,⟨b1,n1⟩,⟨b2,n2⟩,⟨b3,n3⟩,⟨b4,n4⟩,⟨b5,n5⟩,⟨b6,n6⟩,⟨b7,n7⟩,⟨b8,n8⟩,⟨b9,n9⟩,⟨b10,n10⟩,⟨b11,n11⟩,⟨b12,n12⟩⟩⟩
 have hc:([c0,c1,c2,c3,c4,c5,c6,c7,c8,c9,c10,c11,c12]:List AV)=[c0] ++ [c1] ++ [c2] ++ [c3] ++ [c4] ++ [c5] ++ [c6] ++ [c7] ++ [c8] ++ [c9] ++ [c10] ++ [c11] ++ [c12]:=rfl
 rw [hc]
 rw [q0,q1,q2,q3,q4,q5,q6,q7,q8,q9,q10,q11,q12]
 rw [e1,e2,e3,e4,e5,e6,e7,e8,e9,e10,e11,e12]
 rfl
theorem ZuR {cs:List AV}(h:Of Tryz.prog 77 cs):∃ x,cs=ZL x∧LK x:=by
 obtain ⟨hl,hf⟩:=h.toStruct Tryz.underlying77
 rw [show Tryz.prog.cellsOf 77=20 from by kernel_rfl] at hl
 obtain ⟨c0,c1,c2,c3,r0,rfl,hl0⟩:=TP hl
 obtain ⟨c4,c5,c6,c7,r4,rfl,hl4⟩:=TP hl0
 obtain ⟨c8,c9,c10,c11,r8,rfl,hl8⟩:=TP hl4
 obtain ⟨c12,c13,c14,c15,r12,rfl,hl12⟩:=TP hl8
 obtain ⟨c16,c17,c18,c19,r16,rfl,hl16⟩:=TP hl12
 obtain rfl:=List.eq_nil_of_length_eq_zero hl16
 have f0:Of Tryz.prog 67 [c0]:=J3 (hf 0 _ rfl) (n := 1) (by kernel_rfl) rfl
 obtain ⟨v0,q0,b0⟩:=f0.toI64 Tryz.underlying67
 have f1:Of Tryz.prog 3 [c1]:=J3 (hf 1 _ rfl) (n := 1) (by kernel_rfl) rfl
 obtain ⟨v1,q1,b1⟩:=f1.toI64 Tryz.underlying3
 have f2:Of Tryz.prog 3 [c2]:=J3 (hf 2 _ rfl) (n := 1) (by kernel_rfl) rfl
 obtain ⟨v2,q2,b2⟩:=f2.toI64 Tryz.underlying3
 have f3:Of Tryz.prog 3 [c3]:=J3 (hf 3 _ rfl) (n := 1) (by kernel_rfl) rfl
 obtain ⟨v3,q3,b3⟩:=f3.toI64 Tryz.underlying3
 have f4:Of Tryz.prog 71 [c4,c5,c6,c7]:=J3 (hf 4 _ rfl) (n := 4) (by kernel_rfl) rfl
 obtain ⟨v4,q4,b4⟩:=ZaV _ (Nat.le_refl _) f4
 have f5:Of Tryz.prog 71 [c8,c9,c10,c11]:=J3 (hf 5 _ rfl) (n := 4) (by kernel_rfl) rfl
 obtain ⟨v5,q5,b5⟩:=ZaV _ (Nat.le_refl _) f5
 have f6:Of Tryz.prog 69 [c12]:=J3 (hf 6 _ rfl) (n := 1) (by kernel_rfl) rfl
 obtain ⟨w6,q6,b6,m6⟩:=f6.toSlice Tryz.underlying69
 rw [Zg7] at q6
 rw [Zkv] at b6
 obtain ⟨v6,e6,n6⟩:=Xt (row := Zt) (ok := Y2) (fun r hr hq=>ZaV _ (Nat.le_refl _) hq) m6
 replace b6:v6.length * 56≤140737488351232:=by rw [e6,List.length_map] at b6; exact b6
 have f7:Of Tryz.prog 75 [c13,c14,c15,c16,c17,c18]:=J3 (hf 7 _ rfl) (n := 6) (by kernel_rfl) rfl
 obtain ⟨v7,q7,b7⟩:=Zld f7
 have f8:Of Tryz.prog 4 [c19]:=J3 (hf 8 _ rfl) (n := 1) (by kernel_rfl) rfl
 obtain ⟨v8,q8⟩:=f8.toBool Tryz.underlying4
 have b8:True:=trivial
 refine ⟨⟨v0,v1,v2,v3,v4,v5,v6,v7,v8⟩,?_,⟨b0,b1,b2,b3,b4,b5,⟨b6,n6⟩,b7,b8⟩⟩
 have hc:([c0,c1,c2,c3,c4,c5,c6,c7,c8,c9,c10,c11,c12,c13,c14,c15,c16,c17,c18,c19]:List AV)=[c0] ++ [c1] ++ [c2] ++ [c3] ++ [c4,c5,c6,c7] ++ [c8,c9,c10,c11] ++ [c12] ++ [c13,c14,c15,c16,c17,c18] ++ [c19]:=rfl
 rw [hc]
 rw [q0,q1,q2,q3,q4,q5,q6,q7,q8]
 rw [e6]
 unfold ZL; simp only [List.append_assoc,List.cons_append,List.nil_append]
theorem ZsT {cs:List AV}(h:Of Tryz.prog 32 cs):∃ x,cs=Qr x∧OH x:=by
 obtain ⟨hl,hf⟩:=h.toStruct Tryz.underlying32
 rw [show Tryz.prog.cellsOf 32=4 from by kernel_rfl] at hl
 obtain ⟨c0,c1,c2,c3,r0,rfl,hl0⟩:=TP hl
 obtain rfl:=List.eq_nil_of_length_eq_zero hl0
 have f0:Of Tryz.prog 9 [c0]:=J3 (hf 0 _ rfl) (n := 1) (by kernel_rfl) rfl
 obtain ⟨v0,q0,b0⟩:=f0.toStr Tryz.underlying9
 have f1:Of Tryz.prog 3 [c1]:=J3 (hf 1 _ rfl) (n := 1) (by kernel_rfl) rfl
 obtain ⟨v1,q1,b1⟩:=f1.toI64 Tryz.underlying3
 have f2:Of Tryz.prog 3 [c2]:=J3 (hf 2 _ rfl) (n := 1) (by kernel_rfl) rfl
 obtain ⟨v2,q2,b2⟩:=f2.toI64 Tryz.underlying3
 have f3:Of Tryz.prog 30 [c3]:=J3 (hf 3 _ rfl) (n := 1) (by kernel_rfl) rfl
 obtain ⟨w3,q3,b3,m3⟩:=f3.toSlice Tryz.underlying30
 rw [Zsj] at q3
 rw [Zum] at b3
 obtain ⟨v3,e3,n3⟩:=Xt (row := ZL) (fun r hr hq=>ZuR hq) m3
 replace b3:v3.length * 256≤140737488351232:=by rw [e3,List.length_map] at b3; exact b3
 refine ⟨⟨v0,v1,v2,v3⟩,?_,⟨b0,b1,b2,⟨b3,n3⟩⟩⟩
 have hc:([c0,c1,c2,c3]:List AV)=[c0] ++ [c1] ++ [c2] ++ [c3]:=rfl
 rw [hc]
 rw [q0,q1,q2,q3]
 rw [e3]
 rfl
theorem ZoN {cs:List AV}(h:Of Tryz.prog 58 cs):∃ x,cs=ZF x∧Ae x:=by
 obtain ⟨hl,hf⟩:=h.toStruct Tryz.underlying58
 rw [show Tryz.prog.cellsOf 58=14 from by kernel_rfl] at hl
 obtain ⟨c0,c1,c2,c3,r0,rfl,hl0⟩:=TP hl
 obtain ⟨c4,c5,c6,c7,r4,rfl,hl4⟩:=TP hl0
 obtain ⟨c8,c9,c10,c11,r8,rfl,hl8⟩:=TP hl4
 obtain ⟨c12,c13,r12,rfl,hl12⟩:=ZoI hl8
 obtain rfl:=List.eq_nil_of_length_eq_zero hl12
 have f0:Of Tryz.prog 55 [c0,c1,c2,c3,c4,c5,c6,c7,c8,c9,c10,c11,c12]:=J3 (hf 0 _ rfl) (n := 13) (by kernel_rfl) rfl
 obtain ⟨v0,q0,b0⟩:=ZoO f0
 have f1:Of Tryz.prog 56 [c13]:=J3 (hf 1 _ rfl) (n := 1) (by kernel_rfl) rfl
 obtain ⟨w1,q1,b1,m1⟩:=f1.toSlice Tryz.underlying56
 rw [Zsf] at q1
 rw [Zui] at b1
 obtain ⟨v1,e1,n1⟩:=Xt (row := Qr) (fun r hr hq=>ZsT hq) m1
 replace b1:v1.length * 56≤140737488351232:=by rw [e1,List.length_map] at b1; exact b1
 refine ⟨⟨v0,v1⟩,?_,⟨b0,⟨b1,n1⟩⟩⟩
 have hc:([c0,c1,c2,c3,c4,c5,c6,c7,c8,c9,c10,c11,c12,c13]:List AV)=[c0,c1,c2,c3,c4,c5,c6,c7,c8,c9,c10,c11,c12] ++ [c13]:=rfl
 rw [hc]
 rw [q0,q1]
 rw [e1]
 unfold ZF; simp only [List.append_assoc,List.cons_append,List.nil_append]
theorem Zze {cs:List AV}(h:Of Tryz.prog 60 cs):∃ x,cs=DU x∧ZwK x:=by
 obtain ⟨hl,hf⟩:=h.toStruct Tryz.underlying60
 rw [show Tryz.prog.cellsOf 60=3 from by kernel_rfl] at hl
 obtain ⟨c0,c1,c2,r0,rfl,hl0⟩:=ZoJ hl
 obtain rfl:=List.eq_nil_of_length_eq_zero hl0
 have f0:Of Tryz.prog 3 [c0]:=J3 (hf 0 _ rfl) (n := 1) (by kernel_rfl) rfl
 obtain ⟨v0,q0,b0⟩:=f0.toI64 Tryz.underlying3
 have f1:Of Tryz.prog 3 [c1]:=J3 (hf 1 _ rfl) (n := 1) (by kernel_rfl) rfl
 obtain ⟨v1,q1,b1⟩:=f1.toI64 Tryz.underlying3
 have f2:Of Tryz.prog 3 [c2]:=J3 (hf 2 _ rfl) (n := 1) (by kernel_rfl) rfl
 obtain ⟨v2,q2,b2⟩:=f2.toI64 Tryz.underlying3
 refine ⟨⟨v0,v1,v2⟩,?_,⟨b0,b1,b2⟩⟩
 have hc:([c0,c1,c2]:List AV)=[c0] ++ [c1] ++ [c2]:=rfl
 rw [hc]
 rw [q0,q1,q2]
 rfl
theorem Zrp {cs:List AV}(h:Of Tryz.prog 25 cs):∃ x,cs=ZX x∧Qn x:=by
 obtain ⟨hl,hf⟩:=h.toStruct Tryz.underlying25
 rw [show Tryz.prog.cellsOf 25=3 from by kernel_rfl] at hl
 obtain ⟨c0,c1,c2,r0,rfl,hl0⟩:=ZoJ hl
 obtain rfl:=List.eq_nil_of_length_eq_zero hl0
 have f0:Of Tryz.prog 9 [c0]:=J3 (hf 0 _ rfl) (n := 1) (by kernel_rfl) rfl
 obtain ⟨v0,q0,b0⟩:=f0.toStr Tryz.underlying9
 have f1:Of Tryz.prog 22 [c1]:=J3 (hf 1 _ rfl) (n := 1) (by kernel_rfl) rfl
 obtain ⟨w1,q1,b1,m1⟩:=f1.toSlice Tryz.underlying22
 rw [Zsg] at q1
 rw [Zuj] at b1
 obtain ⟨v1,e1,n1⟩:=Xt (row := ZF) (fun r hr hq=>ZoN hq) m1
 replace b1:v1.length * 328≤140737488351232:=by rw [e1,List.length_map] at b1; exact b1
 have f2:Of Tryz.prog 23 [c2]:=J3 (hf 2 _ rfl) (n := 1) (by kernel_rfl) rfl
 obtain ⟨w2,q2,b2,m2⟩:=f2.toSlice Tryz.underlying23
 rw [Zsh] at q2
 rw [Zuk] at b2
 obtain ⟨v2,e2,n2⟩:=Xt (row := DU) (fun r hr hq=>Zze hq) m2
 replace b2:v2.length * 24≤140737488351232:=by rw [e2,List.length_map] at b2; exact b2
 refine ⟨⟨v0,v1,v2⟩,?_,⟨b0,⟨b1,n1⟩,⟨b2,n2⟩⟩⟩
 have hc:([c0,c1,c2]:List AV)=[c0] ++ [c1] ++ [c2]:=rfl
 rw [hc]
 rw [q0,q1,q2]
 rw [e1,e2]
 rfl
end Go.Proofs.YtleomfgijkapfaaGreatDoor
end
section
namespace Go.Proofs.YtleomfgijkapfaaGreatDoor
open Go Go.RowKit Go.Proofs.YtleomfgijkapfaaGreatDoor.Abs
open Nat (reduceAdd reduceLeDiff)
set_option maxRecDepth 100000
def orK (f:FuncId)(args:List AV):Option AV:=if f=J5 then (match args with | []=>some (.bool true) | _=>none) else none
theorem Zzt {W0:World}(hG:GOk GF W0):∀ f args v,orK f args=some v→Zbi Tryz.prog W0 f args v:=by
 intro f args v h
 unfold orK at h
 split at h
 ·rename_i e; subst e
  split at h <;> cases h
  refine ⟨fun _ _ h=>(by cases h),fun Γ w xs hb hΓ hs hx=>?_⟩
  have hxs:xs=#[]:=Array.eq_empty_of_size_eq_zero hs
  subst hxs
  refine Rx Tryz.func10 (by kernel_rfl) rfl ((ZwS (ZmO hG hb)).mono ?_)
  rintro e w' ⟨rfl,hb'⟩
  exact ⟨_,rfl,hb',.bool true⟩
 ·cases h
def O1 (f:FuncId)(args:List AV)(hp:List Zw):Option (AV×List Zw×Eff):=if f=J5 then (orK f args).map fun v=>(v,hp,none) else Zrj 223 2 24 f args hp
theorem ZzX {W0:World}(hG:GOk GF W0):YS Tryz.prog W0 O1:=by
 intro f args hp v hp' e ho Γ w xs hr ht hs hx
 unfold O1 at ho
 split at ho
 ·exact Bo (Zzt hG) f args hp v hp' e ho Γ w xs hr ht hs hx
 ·exact Zws W0 f args hp v hp' e ho Γ w xs hr ht hs hx
def C1:Cfg:=⟨GF,cT,O1,9223372036854775808⟩
theorem Z0H:OB C1:=⟨rfl,Nat.le_refl _,fun n hp h1 h2=>⟨rfl,by
 show Zrj 223 2 24 223 [.own 2 [],.int .i64 n] hp=_
 have a:(2:Nat)=2∧0≤n∧n.toNat * 24≤140737488355328∧n.toNat≤140737488355328:=⟨rfl,h1,by omega,by omega⟩
 show (if (2:Nat)=2∧0≤n∧n.toNat * 24≤140737488355328∧n.toNat≤140737488355328 then some (AV.own 2 [],hp,none) else none)=(some (AV.own 2 [],hp,none):KR)
 rw [if_pos a]⟩⟩
theorem ZzU {W0:World}(hG:GOk GF W0):ZlI Tryz.prog W0 C1 where
 mixed:=by kernel_rfl
 globals:=hG
 table:=fun f af h=>by
  have h:(tab.find? (·.1 == f)).map (·.2)=some af:=h
  obtain ⟨p,hp,rfl⟩:=Option.map_eq_some_iff.1 h
  have hf:=List.find?_some hp
  have:p.1=f:=by simpa using hf
  subst this
  exact ZwF p (List.mem_of_find?_eq_some hp)
 oracle:=ZzX hG
theorem Zxm (n:Nat)(hp:List Zw)(h:1≤n):Zb C1 n J5 [] hp=some (.bool true,hp,none):=by
 obtain ⟨m,rfl⟩:∃ m,n=m + 1:=⟨n - 1,by omega⟩
 rfl
theorem Z0G:LH C1:={ toOB := Z0H,F0 := rfl,AW := Zxm }
theorem ZqR {H:Type}{c0 c2:List AV}{d0 d2:DataW H}(S0:SN Tryz.prog 25 c0 d0)(S2:SN Tryz.prog 32 c2 d2)(x1:Int)(b1:-9223372036854775808≤x1∧x1≤9223372036854775807)(v0 v2:Value)(w:World)(hG:GOk GF w)
  (hR0:Rep still w (.agg c0) v0) (hR2:Rep still w (.agg c2) v2) :
  Calls Tryz.prog Ii #[v0,.int .i64 x1,v2] w fun e w'=>e=.returned (.bool true)∧Below w.heap.size w w':=by
 obtain ⟨p,rfl,hp⟩:=Zrp S0.of
 obtain ⟨c,rfl,hc⟩:=ZsT S2.of
 refine ZyU (ZzU hG) (AZ Z0G _ p x1 c (Nat.le_refl _) [] hp b1 hc (Zcm p x1 c hc)) rfl fun j x hx=>?_
 match j,hx with
 | 0,hx=>cases hx; exact ⟨hR0,fun k r e=>by cases e⟩
 | 1,hx=>cases hx; exact ⟨.int _ _,fun k r e=>by cases e⟩
 | 2,hx=>cases hx; exact ⟨hR2,fun k r e=>by cases e⟩
end Go.Proofs.YtleomfgijkapfaaGreatDoor
end
section
namespace Go.Proofs.YtleomfgijkapfaaGreatDoor
open Go Go.RowKit Go.Proofs.YtleomfgijkapfaaGreatDoor.Abs
open Nat (reduceAdd reduceLeDiff)
set_option maxRecDepth 100000
set_option maxHeartbeats 0
def ZkS {H:Type}(x:O9):DataW H:=.agg [.lit (.string x.word),.lit (.int .i64 x.a),.lit (.int .i64 x.b),.lit (.bool x.c),.lit (.bool x.e),.lit (.bool x.f),.lit (.bool x.args),.lit (.bool x.dist),.lit (.bool x.preempt)]
theorem Zxg {H:Type}:(Rows.laid_simulator_code_forms:DataW H)=.slice (KW.map ZkS) []:=rfl
theorem Zu2 {H:Type}{n:Nat}{r:List AV}{x:O9}(h:Shp Tryz.prog (n + 2) 97 r (ZkS x:DataW H)):r=Jp x:=by
 obtain ⟨hl,ds,e,_,hf⟩:=h.struct Tryz.underlying97
 rw [show Tryz.prog.cellsOf 97=9 from by kernel_rfl] at hl
 have hds:ds=[.lit (.string x.word),.lit (.int .i64 x.a),.lit (.int .i64 x.b),.lit (.bool x.c),.lit (.bool x.e),.lit (.bool x.f),.lit (.bool x.args),.lit (.bool x.dist),.lit (.bool x.preempt)]:=by unfold ZkS at e; injection e with e; exact e.symm
 subst hds
 obtain ⟨c0,r0,rfl,hl0⟩:=ZmT hl
 obtain ⟨c1,r1,rfl,hl1⟩:=ZmT hl0
 obtain ⟨c2,r2,rfl,hl2⟩:=ZmT hl1
 obtain ⟨c3,r3,rfl,hl3⟩:=ZmT hl2
 obtain ⟨c4,r4,rfl,hl4⟩:=ZmT hl3
 obtain ⟨c5,r5,rfl,hl5⟩:=ZmT hl4
 obtain ⟨c6,r6,rfl,hl6⟩:=ZmT hl5
 obtain ⟨c7,r7,rfl,hl7⟩:=ZmT hl6
 obtain ⟨c8,r8,rfl,hl8⟩:=ZmT hl7
 obtain rfl:=List.eq_nil_of_length_eq_zero hl8
 obtain ⟨d0,q0,s0⟩:=hf 0 _ rfl
 obtain rfl:=Option.some.inj q0
 replace s0:Shp Tryz.prog (n + 1) 9 (([c0,c1,c2,c3,c4,c5,c6,c7,c8].drop 0).take (Tryz.prog.cellsOf 9)) _:=s0
 rw [show Tryz.prog.cellsOf 9=1 from by kernel_rfl] at s0
 replace s0:Shp Tryz.prog (n + 1) 9 [c0] ((.lit (.string x.word):DataW H)):=s0
 obtain ⟨v0,a0,b0,_⟩:=s0.str Tryz.underlying9
 injection b0 with b0; injection b0 with b0; injection a0 with a0
 obtain ⟨d1,q1,s1⟩:=hf 1 _ rfl
 obtain rfl:=Option.some.inj q1
 replace s1:Shp Tryz.prog (n + 1) 95 (([c0,c1,c2,c3,c4,c5,c6,c7,c8].drop 1).take (Tryz.prog.cellsOf 95)) _:=s1
 rw [show Tryz.prog.cellsOf 95=1 from by kernel_rfl] at s1
 replace s1:Shp Tryz.prog (n + 1) 95 [c1] ((.lit (.int .i64 x.a):DataW H)):=s1
 obtain ⟨v1,a1,b1,_⟩:=s1.int Tryz.underlying95
 injection b1 with b1; injection b1 with _ b1; injection a1 with a1
 obtain ⟨d2,q2,s2⟩:=hf 2 _ rfl
 obtain rfl:=Option.some.inj q2
 replace s2:Shp Tryz.prog (n + 1) 95 (([c0,c1,c2,c3,c4,c5,c6,c7,c8].drop 2).take (Tryz.prog.cellsOf 95)) _:=s2
 rw [show Tryz.prog.cellsOf 95=1 from by kernel_rfl] at s2
 replace s2:Shp Tryz.prog (n + 1) 95 [c2] ((.lit (.int .i64 x.b):DataW H)):=s2
 obtain ⟨v2,a2,b2,_⟩:=s2.int Tryz.underlying95
 injection b2 with b2; injection b2 with _ b2; injection a2 with a2
 obtain ⟨d3,q3,s3⟩:=hf 3 _ rfl
 obtain rfl:=Option.some.inj q3
 replace s3:Shp Tryz.prog (n + 1) 4 (([c0,c1,c2,c3,c4,c5,c6,c7,c8].drop 3).take (Tryz.prog.cellsOf 4)) _:=s3
 rw [show Tryz.prog.cellsOf 4=1 from by kernel_rfl] at s3
 replace s3:Shp Tryz.prog (n + 1) 4 [c3] ((.lit (.bool x.c):DataW H)):=s3
 obtain ⟨v3,a3,b3⟩:=s3.bool Tryz.underlying4
 injection b3 with b3; injection b3 with b3; injection a3 with a3
 obtain ⟨d4,q4,s4⟩:=hf 4 _ rfl
 obtain rfl:=Option.some.inj q4
 replace s4:Shp Tryz.prog (n + 1) 4 (([c0,c1,c2,c3,c4,c5,c6,c7,c8].drop 4).take (Tryz.prog.cellsOf 4)) _:=s4
 rw [show Tryz.prog.cellsOf 4=1 from by kernel_rfl] at s4
 replace s4:Shp Tryz.prog (n + 1) 4 [c4] ((.lit (.bool x.e):DataW H)):=s4
 obtain ⟨v4,a4,b4⟩:=s4.bool Tryz.underlying4
 injection b4 with b4; injection b4 with b4; injection a4 with a4
 obtain ⟨d5,q5,s5⟩:=hf 5 _ rfl
 obtain rfl:=Option.some.inj q5
 replace s5:Shp Tryz.prog (n + 1) 4 (([c0,c1,c2,c3,c4,c5,c6,c7,c8].drop 5).take (Tryz.prog.cellsOf 4)) _:=s5
 rw [show Tryz.prog.cellsOf 4=1 from by kernel_rfl] at s5
 replace s5:Shp Tryz.prog (n + 1) 4 [c5] ((.lit (.bool x.f):DataW H)):=s5
 obtain ⟨v5,a5,b5⟩:=s5.bool Tryz.underlying4
 injection b5 with b5; injection b5 with b5; injection a5 with a5
 obtain ⟨d6,q6,s6⟩:=hf 6 _ rfl
 obtain rfl:=Option.some.inj q6
 replace s6:Shp Tryz.prog (n + 1) 4 (([c0,c1,c2,c3,c4,c5,c6,c7,c8].drop 6).take (Tryz.prog.cellsOf 4)) _:=s6
 rw [show Tryz.prog.cellsOf 4=1 from by kernel_rfl] at s6
 replace s6:Shp Tryz.prog (n + 1) 4 [c6] ((.lit (.bool x.args):DataW H)):=s6
 obtain ⟨v6,a6,b6⟩:=s6.bool Tryz.underlying4
 injection b6 with b6; injection b6 with b6; injection a6 with a6
 obtain ⟨d7,q7,s7⟩:=hf 7 _ rfl
 obtain rfl:=Option.some.inj q7
 replace s7:Shp Tryz.prog (n + 1) 4 (([c0,c1,c2,c3,c4,c5,c6,c7,c8].drop 7).take (Tryz.prog.cellsOf 4)) _:=s7
 rw [show Tryz.prog.cellsOf 4=1 from by kernel_rfl] at s7
 replace s7:Shp Tryz.prog (n + 1) 4 [c7] ((.lit (.bool x.dist):DataW H)):=s7
 obtain ⟨v7,a7,b7⟩:=s7.bool Tryz.underlying4
 injection b7 with b7; injection b7 with b7; injection a7 with a7
 obtain ⟨d8,q8,s8⟩:=hf 8 _ rfl
 obtain rfl:=Option.some.inj q8
 replace s8:Shp Tryz.prog (n + 1) 4 (([c0,c1,c2,c3,c4,c5,c6,c7,c8].drop 8).take (Tryz.prog.cellsOf 4)) _:=s8
 rw [show Tryz.prog.cellsOf 4=1 from by kernel_rfl] at s8
 replace s8:Shp Tryz.prog (n + 1) 4 [c8] ((.lit (.bool x.preempt):DataW H)):=s8
 obtain ⟨v8,a8,b8⟩:=s8.bool Tryz.underlying4
 injection b8 with b8; injection b8 with b8; injection a8 with a8
 rw [a0,a1,a2,a3,a4,a5,a6,a7,a8,← b0,← b1,← b2,← b3,← b4,← b5,← b6,← b7,← b8]
 rfl
theorem Zu3 {W:World}{rest:List (String×DataW Unit)}(h:laidMet Tryz.prog (("simulator/code.forms",Rows.laid_simulator_code_forms) :: rest) W):GOk GF W:=by
 obtain ⟨ps,⟨g',t',cs,fuel,p,q,hg',ht',hvar,hd,_,_⟩,_⟩:=h
 obtain rfl:0=g':=Option.some.inj ((show Tryz.prog.globalNamed "simulator/code.forms" = some 0 by kernel_rfl).symm.trans hg')
 obtain rfl:98=t':=Option.some.inj ((show (Tryz.prog.globals[0]?).map (·.type)=some 98 by kernel_rfl).symm.trans ht')
 obtain ⟨az,s,hl,hr⟩:=Zg8 (Γ := fun _=>.imm) (fun _=>rfl) 4 fuel 98 cs.toList (Rows.laid_simulator_code_forms,p) (by kernel_rfl) hd (fun y hy=>by
  have:((Rows.laid_simulator_code_forms:DataW Unit).weights Tryz.prog 98).all (fun y=>decide (y≤reachBytes))=true:=by kernel_rfl
  exact of_decide_eq_true (List.all_eq_true.1 this y hy))
 obtain ⟨rows,rfl,_,h3⟩:=(Shp.mk s).slice Tryz.underlying98
 have hrows:rows=KW.map Jp:=by
  rw [Zxg] at h3
  rcases h3 with ⟨_,h⟩ | ⟨D,ds,spare,e1,e2,e3⟩
  ·cases h
  ·injection e1 with e1 _
   subst e1
   have hlen:rows.length=KW.length:=by have:=congrArg List.length e2; simpa using this.symm
   refine List.ext_getElem? fun i=>?_
   rcases Nat.lt_or_ge i rows.length with hi | hi
   ·have hi':i < KW.length:=by omega
    have hD:ZkS KW[i]=D i:=by
     have:=congrArg (fun l:List (DataW Unit)=>l[i]?) e2
     simpa [hi,hi'] using this
    have h4:=e3 i rows[i] (List.getElem?_eq_getElem hi)
    rw [← hD] at h4
    rw [List.getElem?_eq_getElem hi,List.getElem?_map,List.getElem?_eq_getElem hi',Zu2 h4]; rfl
   ·rw [List.getElem?_eq_none hi,List.getElem?_eq_none (by rw [List.length_map]; omega)]
 subst hrows
 have h9:Tryz.prog.cellsOf 97=9:=by kernel_rfl
 rw [h9] at hr hl
 have hlt:0 < W.heap.size:=by
  rcases Nat.lt_or_ge 0 W.heap.size with h | h
  ·exact h
  ·have:=World.var?_cell (show Tryz.prog.globalNamed "simulator/code.forms" = some 0 by kernel_rfl) hvar 0
   rw [World.cell?,Array.getElem?_eq_none h] at this
   have hz:cs.size=1:=by simpa using hl.symm
   simp [hz] at this
 intro g cells hg
 unfold GF at hg
 split at hg <;> cases hg
 rename_i e; subst e
 refine ⟨hlt,fun j c hc=>?_⟩
 obtain ⟨k1,k2,k3,k4⟩:=hr j c hc
 have hj:j=0:=by have:=ZA hc; simp at this; omega
 subst hj
 have hz:cs.size=1:=by simpa using hl.symm
 refine ⟨_,?_,k3,k1⟩
 rw [World.var?_cell (show Tryz.prog.globalNamed "simulator/code.forms" = some 0 by kernel_rfl) hvar 0]
 simp [hz,List.getD]
end Go.Proofs.YtleomfgijkapfaaGreatDoor
end
