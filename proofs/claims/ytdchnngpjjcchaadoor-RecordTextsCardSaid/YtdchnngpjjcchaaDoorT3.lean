import Derived.Test.YtdchnngpjjcchaaDoorRows
import Derived.ProofKit
import Derived.Test.YtdchnngpjjcchaaDoorT2
set_option linter.all false
section
namespace Go.Proofs.YtdchnngpjjcchaaDoor
open Go Go.Proofs.YtdchnngpjjcchaaDoor.Abs
set_option maxRecDepth 100000
set_option maxHeartbeats 0
abbrev HP:=List Zf
abbrev GT:=Nat→Option (List AV)
abbrev KT:=FuncId→List AV→HP→KR
def takes:FuncId→List Nat:=fun _=>[]
abbrev YY:FuncId:=3
abbrev Qp:FuncId:=9
abbrev YA:FuncId:=10
abbrev Vy:FuncId:=11
abbrev Y9:FuncId:=12
abbrev Xk:FuncId:=13
abbrev YZ:FuncId:=14
abbrev Jl:FuncId:=15
abbrev Zq:FuncId:=16
abbrev WB:FuncId:=18
abbrev Xl:FuncId:=21
abbrev JE:FuncId:=22
abbrev ZR:FuncId:=23
abbrev JG:FuncId:=24
abbrev JF:FuncId:=25
abbrev Vz:FuncId:=26
abbrev YD:FuncId:=27
abbrev Gf:FuncId:=28
abbrev WA:FuncId:=29
abbrev Gg:FuncId:=30
abbrev XR:FuncId:=31
abbrev QD:FuncId:=32
abbrev Oc:FuncId:=33
abbrev Qq:FuncId:=34
abbrev Vj:FuncId:=35
abbrev XQ:FuncId:=36
abbrev Zv:FuncId:=38
abbrev QY:FuncId:=39
abbrev QK:FuncId:=48
abbrev Qn:FuncId:=49
abbrev Vx:FuncId:=51
abbrev QL:FuncId:=61
abbrev Qo:FuncId:=62
abbrev Ro:TypeId:=3
abbrev QN:TypeId:=5
abbrev Rq:TypeId:=9
abbrev Ze:TypeId:=24
abbrev EH:TypeId:=34
abbrev WJ:TypeId:=47
abbrev YI:TypeId:=64
abbrev Rn:TypeId:=89
def JM:ZG :=
  .seq (.region false [⟨(some 2),.box 24 6 (.tmp 0),none⟩,
     ⟨(some 4),.mv (.const (.bool false)),none⟩])
  (.seq (.seq (.region false [⟨(some 9),.mv (.tmp 1),none⟩,
       ⟨(some 10),.len .str (.tmp 9),none⟩,
       ⟨(some 11),.bin .gtr .prim (.tmp 10) (.const (.int .i64 200)),none⟩])
    (.cond (.tmp 11) (.seq (.region false [⟨(some 12),.call (.const (.fn 9 [] [])) [],none⟩,
         ⟨(some 4),.take 12,none⟩])
      (.ret))
     (.skip)))
   (.seq (.region false [⟨(some 14),.mv (.tmp 1),none⟩,
       ⟨(some 15),.call (.const (.fn 10 [] [])) [(.inr (.tmp 14))],none⟩,
       ⟨(some 13),.mv (.tmp 15),none⟩,
       ⟨(some 16),.extract (.tmp 13) 0,none⟩,
       ⟨(some 17),.extract (.tmp 13) 1,none⟩,
       ⟨(some 5),.mk 24 [(.int .i64 0),(.int .i64 0),(.int .i64 0),(.int .i64 0),(.int .i64 0),(.int .i64 0)],none⟩,
       ⟨none,.st 6 (.tmp 5) (.tmp 16),none⟩,
       ⟨(some 6),.take 17,none⟩])
    (.seq (.region false [⟨(some 19),.mv (.tmp 1),none⟩,
        ⟨(some 20),.call (.const (.fn 11 [] [])) [(.inr (.tmp 19))],none⟩,
        ⟨(some 18),.mv (.tmp 20),none⟩,
        ⟨(some 21),.extract (.tmp 18) 0,none⟩,
        ⟨(some 22),.extract (.tmp 18) 1,none⟩,
        ⟨(some 7),.mk 24 [(.int .i64 0),(.int .i64 0),(.int .i64 0),(.int .i64 0),(.int .i64 0),(.int .i64 0)],none⟩,
        ⟨none,.st 6 (.tmp 7) (.tmp 21),none⟩,
        ⟨(some 8),.take 22,none⟩])
     (.seq (.region true [⟨(some 23),.lda 6 (.tmp 2),none⟩,
         ⟨(some 24),.call (.const (.fn 12 [] [])) [(.inr (.tmp 23))],none⟩,
         ⟨(some 25),.lda 6 (.tmp 2),none⟩,
         ⟨(some 26),.call (.const (.fn 13 [] [])) [(.inr (.tmp 25))],none⟩,
         ⟨(some 27),.bin .eql .prim (.tmp 24) (.tmp 26),none⟩,
         ⟨(some 28),.mv (.tmp 27),none⟩,
         ⟨(some 29),.lda 6 (.tmp 2),(some (28,true))⟩,
         ⟨(some 30),.call (.const (.fn 14 [] [])) [(.inr (.tmp 29))],(some (28,true))⟩,
         ⟨(some 31),.lda 6 (.tmp 2),(some (28,true))⟩,
         ⟨(some 32),.call (.const (.fn 15 [] [])) [(.inr (.tmp 31))],(some (28,true))⟩,
         ⟨(some 33),.bin .eql .prim (.tmp 30) (.tmp 32),(some (28,true))⟩,
         ⟨(some 34),.pick (.tmp 28) (.tmp 33) (.const (.bool false)),none⟩,
         ⟨(some 35),.mv (.tmp 34),none⟩,
         ⟨(some 36),.lda 6 (.tmp 5),(some (35,true))⟩,
         ⟨(some 37),.lda 6 (.tmp 7),(some (35,true))⟩,
         ⟨(some 38),.bin .eql (.struct [.int,.int,.int,.int,.int,.int]) (.tmp 36) (.tmp 37),(some (35,true))⟩,
         ⟨(some 39),.pick (.tmp 35) (.tmp 38) (.const (.bool false)),none⟩,
         ⟨(some 40),.mv (.tmp 39),none⟩,
         ⟨(some 41),.mv (.tmp 6),(some (40,true))⟩,
         ⟨(some 42),.mv (.tmp 8),(some (40,true))⟩,
         ⟨(some 43),.bin .eql .prim (.tmp 41) (.tmp 42),(some (40,true))⟩,
         ⟨(some 44),.pick (.tmp 40) (.tmp 43) (.const (.bool false)),none⟩,
         ⟨(some 45),.mv (.tmp 44),none⟩,
         ⟨(some 46),.call (.const (.fn 9 [] [])) [],(some (45,true))⟩,
         ⟨(some 47),.pick (.tmp 45) (.tmp 46) (.const (.bool false)),none⟩,
         ⟨(some 4),.mv (.tmp 47),none⟩])
      (.ret)))))
def Qa:AFn:=⟨48,[.tmp 4],JM,false⟩
def Ua:List Nat:=[29,30,31,32,33,36,37,38,41,42,43,46]
def Tc:ZG :=
  .seq (.region false [⟨(some 0),.mv (.const (.bool false)),none⟩])
  (.seq (.region false [⟨(some 12),.build [(.int .i64 0),(.int .i64 0),(.int .i64 0),(.int .i64 0),(.int .i64 0),(.int .i64 0)] [(0,1,(.const (.int .i64 1))),(2,1,(.const (.int .i64 1)))],none⟩,
      ⟨(some 13),.lit 24 6 [(.tmp 12)],none⟩,
      ⟨(some 14),.call (.const (.fn 16 [] [])) [(.inr (.tmp 13))],none⟩,
      ⟨(some 11),.mv (.tmp 14),none⟩,
      ⟨(some 15),.extract (.tmp 11) 0,none⟩,
      ⟨(some 16),.extract (.tmp 11) 1,none⟩,
      ⟨(some 1),.take 15,none⟩,
      ⟨(some 2),.take 16,none⟩])
   (.seq (.region false [⟨(some 18),.call (.const (.fn 16 [] [])) [(.inr (.const (.own 6 [])))],none⟩,
       ⟨(some 17),.mv (.tmp 18),none⟩,
       ⟨(some 19),.extract (.tmp 17) 0,none⟩,
       ⟨(some 20),.extract (.tmp 17) 1,none⟩,
       ⟨(some 3),.take 19,none⟩,
       ⟨(some 4),.take 20,none⟩])
    (.seq (.region false [⟨(some 22),.call (.const (.fn 10 [] [])) [(.inr (.const (.str [49,48,32,48,32,104,111,108,100,32,51,32,48,32,53])))],none⟩,
        ⟨(some 21),.mv (.tmp 22),none⟩,
        ⟨(some 23),.extract (.tmp 21) 0,none⟩,
        ⟨(some 24),.extract (.tmp 21) 1,none⟩,
        ⟨(some 5),.mk 24 [(.int .i64 0),(.int .i64 0),(.int .i64 0),(.int .i64 0),(.int .i64 0),(.int .i64 0)],none⟩,
        ⟨none,.st 6 (.tmp 5) (.tmp 23),none⟩,
        ⟨(some 6),.take 24,none⟩])
     (.seq (.region false [⟨(some 26),.call (.const (.fn 10 [] [])) [(.inr (.const (.str [49,32,48,32,98,101,103,105,110,32,48,32,48,32,48,48])))],none⟩,
         ⟨(some 25),.mv (.tmp 26),none⟩,
         ⟨(some 27),.extract (.tmp 25) 0,none⟩,
         ⟨(some 28),.extract (.tmp 25) 1,none⟩,
         ⟨(some 7),.mk 24 [(.int .i64 0),(.int .i64 0),(.int .i64 0),(.int .i64 0),(.int .i64 0),(.int .i64 0)],none⟩,
         ⟨none,.st 6 (.tmp 7) (.tmp 27),none⟩,
         ⟨(some 8),.take 28,none⟩])
      (.seq (.region false [⟨(some 30),.mv (.tmp 1),none⟩,
          ⟨(some 31),.call (.const (.fn 18 [] [])) [(.inr (.tmp 30))],none⟩,
          ⟨(some 29),.mv (.tmp 31),none⟩,
          ⟨(some 32),.extract (.tmp 29) 0,none⟩,
          ⟨(some 33),.extract (.tmp 29) 1,none⟩,
          ⟨(some 9),.take 32,none⟩,
          ⟨(some 10),.take 33,none⟩])
       (.seq (.region false [⟨(some 34),.mv (.tmp 2),none⟩,
           ⟨(some 35),.bin .eql .prim (.tmp 34) (.const (.int .i64 0)),none⟩,
           ⟨(some 36),.mv (.tmp 35),none⟩,
           ⟨(some 37),.mv (.tmp 1),(some (36,true))⟩,
           ⟨(some 38),.conv .ofBytes (.tmp 37),(some (36,true))⟩,
           ⟨(some 39),.bin .eql .prim (.tmp 38) (.const (.str [2,2,0,2,0,0,0])),(some (36,true))⟩,
           ⟨(some 40),.pick (.tmp 36) (.tmp 39) (.const (.bool false)),none⟩,
           ⟨(some 41),.mv (.tmp 40),none⟩,
           ⟨(some 42),.mv (.tmp 4),(some (41,true))⟩,
           ⟨(some 43),.bin .eql .prim (.tmp 42) (.const (.int .i64 0)),(some (41,true))⟩,
           ⟨(some 44),.pick (.tmp 41) (.tmp 43) (.const (.bool false)),none⟩,
           ⟨(some 45),.mv (.tmp 44),none⟩,
           ⟨(some 46),.mv (.tmp 3),(some (45,true))⟩,
           ⟨(some 47),.conv .ofBytes (.tmp 46),(some (45,true))⟩,
           ⟨(some 48),.bin .eql .prim (.tmp 47) (.const (.str [0])),(some (45,true))⟩,
           ⟨(some 49),.pick (.tmp 45) (.tmp 48) (.const (.bool false)),none⟩,
           ⟨(some 50),.mv (.tmp 49),none⟩,
           ⟨(some 51),.lda 6 (.tmp 5),(some (50,true))⟩,
           ⟨(some 52),.build [(.int .i64 0),(.int .i64 0),(.int .i64 0),(.int .i64 0),(.int .i64 0),(.int .i64 0)] [(0,1,(.const (.int .i64 10))),(2,1,(.const (.int .i64 3))),(3,1,(.const (.int .i64 3))),(5,1,(.const (.int .i64 5)))],(some (50,true))⟩,
           ⟨(some 53),.bin .eql (.struct [.int,.int,.int,.int,.int,.int]) (.tmp 51) (.tmp 52),(some (50,true))⟩,
           ⟨(some 54),.pick (.tmp 50) (.tmp 53) (.const (.bool false)),none⟩,
           ⟨(some 55),.mv (.tmp 54),none⟩,
           ⟨(some 56),.mv (.tmp 6),(some (55,true))⟩,
           ⟨(some 57),.bin .eql .prim (.tmp 56) (.const (.int .i64 0)),(some (55,true))⟩,
           ⟨(some 58),.pick (.tmp 55) (.tmp 57) (.const (.bool false)),none⟩,
           ⟨(some 59),.mv (.tmp 58),none⟩,
           ⟨(some 60),.lda 6 (.tmp 5),(some (59,true))⟩,
           ⟨(some 61),.call (.const (.fn 14 [] [])) [(.inr (.tmp 60))],(some (59,true))⟩,
           ⟨(some 62),.bin .eql .prim (.tmp 61) (.const (.str [49,48,32,48,32,104,111,108,100,32,51,32,48,32,53])),(some (59,true))⟩,
           ⟨(some 63),.pick (.tmp 59) (.tmp 62) (.const (.bool false)),none⟩,
           ⟨(some 64),.mv (.tmp 63),none⟩,
           ⟨(some 65),.mv (.tmp 8),(some (64,true))⟩,
           ⟨(some 66),.bin .eql .prim (.tmp 65) (.const (.int .i64 8)),(some (64,true))⟩,
           ⟨(some 67),.pick (.tmp 64) (.tmp 66) (.const (.bool false)),none⟩,
           ⟨(some 68),.mv (.tmp 67),none⟩,
           ⟨(some 69),.mv (.tmp 10),(some (68,true))⟩,
           ⟨(some 70),.bin .eql .prim (.tmp 69) (.const (.int .i64 0)),(some (68,true))⟩,
           ⟨(some 71),.pick (.tmp 68) (.tmp 70) (.const (.bool false)),none⟩,
           ⟨(some 72),.mv (.tmp 71),none⟩,
           ⟨(some 73),.mv (.tmp 9),(some (72,true))⟩,
           ⟨(some 74),.len .slice (.tmp 73),(some (72,true))⟩,
           ⟨(some 75),.bin .eql .prim (.tmp 74) (.const (.int .i64 1)),(some (72,true))⟩,
           ⟨(some 76),.pick (.tmp 72) (.tmp 75) (.const (.bool false)),none⟩,
           ⟨(some 77),.mv (.tmp 76),none⟩,
           ⟨(some 78),.build [(.int .i64 0),(.int .i64 0),(.int .i64 0),(.int .i64 0),(.int .i64 0),(.int .i64 0)] [],(some (77,true))⟩,
           ⟨(some 79),.call (.const (.fn 12 [] [])) [(.inr (.tmp 78))],(some (77,true))⟩,
           ⟨(some 80),.bin .eql .prim (.tmp 79) (.const (.int .i64 1)),(some (77,true))⟩,
           ⟨(some 81),.pick (.tmp 77) (.tmp 80) (.const (.bool false)),none⟩,
           ⟨(some 0),.take 81,none⟩])
        (.ret)))))))
def V4:AFn:=⟨82,[.tmp 0],Tc,false⟩
def TR:List Nat:=[37,38,39,42,43,46,47,48,51,52,53,56,57,60,61,62,65,66,69,70,73,74,75,78,79,80]
def IE:ZG :=
  .seq (.region false [⟨(some 4),.mv (.const (.own 1 [])),none⟩])
  (.seq (.region false [⟨(some 5),.mv (.tmp 0),none⟩,
      ⟨(some 6),.mv (.tmp 1),none⟩,
      ⟨(some 7),.call (.const (.fn 49 [] [])) [(.inr (.tmp 6))],none⟩,
      ⟨(some 8),.call (.const (.fn 48 [] [])) [(.inr (.tmp 5)),(.inr (.tmp 7))],none⟩,
      ⟨(some 4),.take 8,none⟩])
   (.ret))
def XW:AFn:=⟨9,[.tmp 4],IE,false⟩
def IR:List Nat:=[]
def Qu:ZG :=
  .seq (.region false [⟨(some 18),.bin .lss .prim (.tmp 17) (.tmp 16),none⟩])
  (.seq (.cond (.tmp 18) (.skip)
    (.exit 0))
   (.seq (.block 1 (.seq (.region false [⟨(some 19),.mv (.tmp 17),none⟩,
         ⟨(some 20),.ia (.slice 1) (.tmp 15) (.tmp 17),none⟩,
         ⟨(some 21),.ldc (.tmp 20),none⟩,
         ⟨(some 6),.take 19,none⟩,
         ⟨(some 7),.take 21,none⟩])
      (.region false [⟨(some 23),.mv (.tmp 6),none⟩,
         ⟨(some 24),.mv (.tmp 7),none⟩,
         ⟨(some 25),.call (.const (.fn 22 [] [])) [(.inr (.tmp 24))],none⟩,
         ⟨(some 22),.mv (.tmp 25),none⟩,
         ⟨(some 26),.extract (.tmp 22) 0,none⟩,
         ⟨(some 27),.extract (.tmp 22) 1,none⟩,
         ⟨(some 28),.ia (.arr 6 1) (.tmp 5) (.tmp 23),none⟩,
         ⟨none,.stt (.tmp 28) 26,none⟩])))
    (.region false [⟨(some 29),.bin .add .prim (.tmp 17) (.const (.int .i64 1)),none⟩,
       ⟨(some 17),.mv (.tmp 29),none⟩])))
def Vo:ZG:=.loop Qu
def Vm:ZG :=
  .seq (.regionB [⟨(some 30),.ia (.arr 6 1) (.tmp 5) (.const (.int .i64 0)),none⟩,
     ⟨(some 31),.ldc (.tmp 30),none⟩,
     ⟨(some 32),.ia (.arr 6 1) (.tmp 5) (.const (.int .i64 1)),none⟩,
     ⟨(some 33),.ldc (.tmp 32),none⟩,
     ⟨(some 34),.ldc (.glob 0),none⟩,
     ⟨(some 35),.mv (.tmp 4),none⟩,
     ⟨(some 36),.ia (.slice 1) (.tmp 35) (.const (.int .i64 2)),none⟩,
     ⟨(some 37),.ldc (.tmp 36),none⟩,
     ⟨(some 38),.call (.const (.fn 23 [] [])) [(.inr (.tmp 34)),(.inr (.tmp 37))],none⟩,
     ⟨(some 39),.bin .add .prim (.const (.int .i64 1)) (.tmp 38),none⟩,
     ⟨(some 40),.ia (.arr 6 1) (.tmp 5) (.const (.int .i64 3)),none⟩,
     ⟨(some 41),.ldc (.tmp 40),none⟩,
     ⟨(some 42),.ia (.arr 6 1) (.tmp 5) (.const (.int .i64 4)),none⟩,
     ⟨(some 43),.ldc (.tmp 42),none⟩,
     ⟨(some 44),.ia (.arr 6 1) (.tmp 5) (.const (.int .i64 5)),none⟩,
     ⟨(some 45),.ldc (.tmp 44),none⟩,
     ⟨(some 46),.build [(.int .i64 0),(.int .i64 0),(.int .i64 0),(.int .i64 0),(.int .i64 0),(.int .i64 0)] [(0,1,(.tmp 31)),(1,1,(.tmp 33)),(2,1,(.tmp 39)),(3,1,(.tmp 41)),(4,1,(.tmp 43)),(5,1,(.tmp 45))],none⟩,
     ⟨(some 8),.mk 24 [(.int .i64 0),(.int .i64 0),(.int .i64 0),(.int .i64 0),(.int .i64 0),(.int .i64 0)],none⟩,
     ⟨none,.st 6 (.tmp 8) (.tmp 46),none⟩])
  (.seq (.seq (.region false [⟨(some 47),.lda 6 (.tmp 8),none⟩,
       ⟨(some 48),.call (.const (.fn 14 [] [])) [(.inr (.tmp 47))],none⟩,
       ⟨(some 49),.mv (.tmp 0),none⟩,
       ⟨(some 50),.bin .neq .prim (.tmp 48) (.tmp 49),none⟩])
    (.cond (.tmp 50) (.seq (.region false [⟨(some 51),.build [(.int .i64 0),(.int .i64 0),(.int .i64 0),(.int .i64 0),(.int .i64 0),(.int .i64 0)] [],none⟩,
         ⟨none,.st 6 (.tmp 2) (.tmp 51),none⟩,
         ⟨(some 3),.mv (.const (.int .i64 8)),none⟩])
      (.ret))
     (.skip)))
   (.seq (.region false [⟨(some 52),.lda 6 (.tmp 8),none⟩,
       ⟨none,.st 6 (.tmp 2) (.tmp 52),none⟩,
       ⟨(some 3),.mv (.const (.int .i64 0)),none⟩])
    (.ret)))
def Vb:ZG :=
  .seq (.region false [⟨(some 2),.mk 24 [(.int .i64 0),(.int .i64 0),(.int .i64 0),(.int .i64 0),(.int .i64 0),(.int .i64 0)],none⟩,
     ⟨(some 3),.mv (.const (.int .i64 0)),none⟩])
  (.seq (.region false [⟨(some 9),.mv (.tmp 0),none⟩,
      ⟨(some 10),.call (.const (.fn 21 [] [])) [(.inr (.tmp 9)),(.inr (.const (.str [32])))],none⟩,
      ⟨(some 4),.take 10,none⟩])
   (.seq (.seq (.region false [⟨(some 11),.mv (.tmp 4),none⟩,
        ⟨(some 12),.len .slice (.tmp 11),none⟩,
        ⟨(some 13),.bin .neq .prim (.tmp 12) (.const (.int .i64 6)),none⟩])
     (.cond (.tmp 13) (.seq (.region false [⟨(some 14),.build [(.int .i64 0),(.int .i64 0),(.int .i64 0),(.int .i64 0),(.int .i64 0),(.int .i64 0)] [],none⟩,
          ⟨none,.st 6 (.tmp 2) (.tmp 14),none⟩,
          ⟨(some 3),.mv (.const (.int .i64 8)),none⟩])
       (.ret))
      (.skip)))
    (.seq (.region false [⟨(some 5),.mk 47 [(.int .i64 0),(.int .i64 0),(.int .i64 0),(.int .i64 0),(.int .i64 0),(.int .i64 0)],none⟩])
     (.seq (.seq (.region false [⟨(some 15),.mv (.tmp 4),none⟩,
          ⟨(some 16),.len .slice (.tmp 15),none⟩,
          ⟨(some 17),.mv (.const (.int .i64 0)),none⟩])
       (.block 0 (Vo)))
      Vm))))
def Yg:AFn:=⟨53,[.agg 2 6,.tmp 3],Vb,false⟩
def ZM:List Nat:=[]
def Xt:ZG :=
  .seq (.seq (.region false [⟨(some 17),.mv (.tmp 7),none⟩,
      ⟨(some 18),.bin .lss .prim (.tmp 17) (.const (.int .i64 6)),none⟩])
   (.cond (.tmp 18) (.skip)
    (.exit 0)))
  (.seq (.block 1 (.seq (.region false [⟨(some 21),.mv (.tmp 7),none⟩,
        ⟨(some 22),.bin .neq .prim (.tmp 21) (.const (.int .i64 2)),none⟩,
        ⟨(some 23),.mv (.tmp 22),none⟩,
        ⟨(some 24),.mv (.tmp 6),(some (23,true))⟩,
        ⟨(some 25),.pick (.tmp 23) (.tmp 24) (.const (.bool false)),none⟩])
     (.cond (.tmp 25) (.region false [⟨(some 27),.mv (.tmp 7),none⟩,
         ⟨(some 28),.mv (.tmp 4),none⟩,
         ⟨(some 29),.mv (.tmp 7),none⟩,
         ⟨(some 30),.ia (.slice 1) (.tmp 28) (.tmp 29),none⟩,
         ⟨(some 31),.ldc (.tmp 30),none⟩,
         ⟨(some 32),.call (.const (.fn 25 [] [])) [(.inr (.tmp 31))],none⟩,
         ⟨(some 26),.mv (.tmp 32),none⟩,
         ⟨(some 33),.extract (.tmp 26) 0,none⟩,
         ⟨(some 34),.extract (.tmp 26) 1,none⟩,
         ⟨(some 35),.ia (.arr 6 1) (.tmp 5) (.tmp 27),none⟩,
         ⟨none,.stt (.tmp 35) 33,none⟩,
         ⟨(some 6),.take 34,none⟩])
      (.skip))))
   (.region false [⟨(some 19),.mv (.tmp 7),none⟩,
      ⟨(some 20),.bin .add .prim (.tmp 19) (.const (.int .i64 1)),none⟩,
      ⟨(some 7),.take 20,none⟩]))
def J5:ZG:=.loop Xt
def Xu:ZG :=
  .seq (.seq (.region false [⟨(some 37),.mv (.tmp 9),none⟩,
      ⟨(some 38),.mv (.tmp 8),none⟩,
      ⟨(some 39),.len .slice (.tmp 38),none⟩,
      ⟨(some 40),.bin .lss .prim (.tmp 37) (.tmp 39),none⟩])
   (.cond (.tmp 40) (.skip)
    (.exit 2)))
  (.seq (.block 3 (.seq (.region false [⟨(some 43),.ia (.arr 6 1) (.tmp 5) (.const (.int .i64 0)),none⟩,
        ⟨(some 44),.ldc (.tmp 43),none⟩,
        ⟨(some 45),.ia (.arr 6 1) (.tmp 5) (.const (.int .i64 1)),none⟩,
        ⟨(some 46),.ldc (.tmp 45),none⟩,
        ⟨(some 47),.mv (.tmp 9),none⟩,
        ⟨(some 48),.ia (.arr 6 1) (.tmp 5) (.const (.int .i64 3)),none⟩,
        ⟨(some 49),.ldc (.tmp 48),none⟩,
        ⟨(some 50),.ia (.arr 6 1) (.tmp 5) (.const (.int .i64 4)),none⟩,
        ⟨(some 51),.ldc (.tmp 50),none⟩,
        ⟨(some 52),.ia (.arr 6 1) (.tmp 5) (.const (.int .i64 5)),none⟩,
        ⟨(some 53),.ldc (.tmp 52),none⟩,
        ⟨(some 54),.build [(.int .i64 0),(.int .i64 0),(.int .i64 0),(.int .i64 0),(.int .i64 0),(.int .i64 0)] [(0,1,(.tmp 44)),(1,1,(.tmp 46)),(2,1,(.tmp 47)),(3,1,(.tmp 49)),(4,1,(.tmp 51)),(5,1,(.tmp 53))],none⟩,
        ⟨(some 10),.mk 24 [(.int .i64 0),(.int .i64 0),(.int .i64 0),(.int .i64 0),(.int .i64 0),(.int .i64 0)],none⟩,
        ⟨none,.st 6 (.tmp 10) (.tmp 54),none⟩])
     (.seq (.region true [⟨(some 55),.mv (.tmp 6),none⟩,
         ⟨(some 56),.mv (.tmp 55),none⟩,
         ⟨(some 57),.mv (.tmp 8),(some (56,true))⟩,
         ⟨(some 58),.mv (.tmp 9),(some (56,true))⟩,
         ⟨(some 59),.ia (.slice 1) (.tmp 57) (.tmp 58),(some (56,true))⟩,
         ⟨(some 60),.ldc (.tmp 59),(some (56,true))⟩,
         ⟨(some 61),.mv (.tmp 4),(some (56,true))⟩,
         ⟨(some 62),.ia (.slice 1) (.tmp 61) (.const (.int .i64 2)),(some (56,true))⟩,
         ⟨(some 63),.ldc (.tmp 62),(some (56,true))⟩,
         ⟨(some 64),.bin .eql .prim (.tmp 60) (.tmp 63),(some (56,true))⟩,
         ⟨(some 65),.pick (.tmp 56) (.tmp 64) (.const (.bool false)),none⟩,
         ⟨(some 66),.mv (.tmp 65),none⟩,
         ⟨(some 67),.lda 6 (.tmp 10),(some (66,true))⟩,
         ⟨(some 68),.call (.const (.fn 13 [] [])) [(.inr (.tmp 67))],(some (66,true))⟩,
         ⟨(some 69),.bin .eql .prim (.tmp 68) (.const (.int .i64 0)),(some (66,true))⟩,
         ⟨(some 70),.pick (.tmp 66) (.tmp 69) (.const (.bool false)),none⟩,
         ⟨(some 71),.mv (.tmp 70),none⟩,
         ⟨(some 72),.lda 6 (.tmp 10),(some (71,true))⟩,
         ⟨(some 73),.call (.const (.fn 15 [] [])) [(.inr (.tmp 72))],(some (71,true))⟩,
         ⟨(some 74),.mv (.tmp 0),(some (71,true))⟩,
         ⟨(some 75),.bin .eql .prim (.tmp 73) (.tmp 74),(some (71,true))⟩,
         ⟨(some 76),.pick (.tmp 71) (.tmp 75) (.const (.bool false)),none⟩])
      (.cond (.tmp 76) (.seq (.region false [⟨(some 77),.lda 6 (.tmp 10),none⟩,
           ⟨none,.st 6 (.tmp 2) (.tmp 77),none⟩,
           ⟨(some 3),.mv (.const (.int .i64 0)),none⟩])
        (.ret))
       (.skip)))))
   (.region false [⟨(some 41),.mv (.tmp 9),none⟩,
      ⟨(some 42),.bin .add .prim (.tmp 41) (.const (.int .i64 1)),none⟩,
      ⟨(some 9),.take 42,none⟩]))
def J6:ZG:=.loop Xu
def J4:ZG :=
  .seq (.region false [⟨(some 78),.build [(.int .i64 0),(.int .i64 0),(.int .i64 0),(.int .i64 0),(.int .i64 0),(.int .i64 0)] [],none⟩,
     ⟨none,.st 6 (.tmp 2) (.tmp 78),none⟩,
     ⟨(some 3),.mv (.const (.int .i64 8)),none⟩])
  (.ret)
def Va:ZG :=
  .seq (.region false [⟨(some 36),.call (.const (.fn 26 [] [])) [],none⟩,
     ⟨(some 8),.take 36,none⟩])
  (.seq (.seq (.region false [⟨(some 9),.mv (.const (.int .i64 1)),none⟩])
    (.block 2 (J6)))
   J4)
def JO:ZG :=
  .seq (.region false [⟨(some 2),.mk 24 [(.int .i64 0),(.int .i64 0),(.int .i64 0),(.int .i64 0),(.int .i64 0),(.int .i64 0)],none⟩,
     ⟨(some 3),.mv (.const (.int .i64 0)),none⟩])
  (.seq (.region false [⟨(some 11),.mv (.tmp 0),none⟩,
      ⟨(some 12),.call (.const (.fn 24 [] [])) [(.inr (.tmp 11))],none⟩,
      ⟨(some 4),.take 12,none⟩])
   (.seq (.seq (.region false [⟨(some 13),.mv (.tmp 4),none⟩,
        ⟨(some 14),.len .slice (.tmp 13),none⟩,
        ⟨(some 15),.bin .neq .prim (.tmp 14) (.const (.int .i64 6)),none⟩])
     (.cond (.tmp 15) (.seq (.region false [⟨(some 16),.build [(.int .i64 0),(.int .i64 0),(.int .i64 0),(.int .i64 0),(.int .i64 0),(.int .i64 0)] [],none⟩,
          ⟨none,.st 6 (.tmp 2) (.tmp 16),none⟩,
          ⟨(some 3),.mv (.const (.int .i64 8)),none⟩])
       (.ret))
      (.skip)))
    (.seq (.region false [⟨(some 5),.mk 47 [(.int .i64 0),(.int .i64 0),(.int .i64 0),(.int .i64 0),(.int .i64 0),(.int .i64 0)],none⟩])
     (.seq (.region false [⟨(some 6),.mv (.const (.bool true)),none⟩])
      (.seq (.seq (.region false [⟨(some 7),.mv (.const (.int .i64 0)),none⟩])
        (.block 0 (J5)))
       Va)))))
def Yb:AFn:=⟨79,[.agg 2 6,.tmp 3],JO,false⟩
def Z7:List Nat:=[24,57,58,59,60,61,62,63,64,67,68,69,72,73,74,75]
def IJ:ZG :=
  .seq (.region false [⟨(some 1),.box 24 6 (.tmp 0),none⟩,
     ⟨(some 2),.mv (.const (.int .i64 0)),none⟩])
  (.seq (.block 0 (.seq (.region false [⟨(some 4),.fa 2 (.tmp 1),none⟩,
        ⟨(some 5),.ldc (.tmp 4),none⟩,
        ⟨(some 6),.bin .lss .prim (.tmp 5) (.const (.int .i64 1)),none⟩,
        ⟨(some 7),.mv (.tmp 6),none⟩,
        ⟨(some 8),.fa 2 (.tmp 1),(some (7,false))⟩,
        ⟨(some 9),.ldc (.tmp 8),(some (7,false))⟩,
        ⟨(some 10),.bin .gtr .prim (.tmp 9) (.const (.int .i64 18)),(some (7,false))⟩,
        ⟨(some 11),.pick (.tmp 7) (.const (.bool true)) (.tmp 10),none⟩,
        ⟨(some 3),.take 11,none⟩])
     (.cond (.tmp 3) (.seq (.region false [⟨(some 2),.mv (.const (.int .i64 1)),none⟩])
       (.ret))
      (.seq (.seq (.region false [⟨(some 13),.fa 0 (.tmp 1),none⟩,
           ⟨(some 14),.ldc (.tmp 13),none⟩,
           ⟨(some 15),.call (.const (.fn 27 [] [])) [(.inr (.tmp 14)),(.inr (.const (.int .i64 1000000000)))],none⟩,
           ⟨(some 16),.un .not (.tmp 15),none⟩,
           ⟨(some 12),.take 16,none⟩])
        (.cond (.tmp 12) (.skip)
         (.seq (.region false [⟨(some 17),.fa 1 (.tmp 1),none⟩,
             ⟨(some 18),.ldc (.tmp 17),none⟩,
             ⟨(some 19),.call (.const (.fn 27 [] [])) [(.inr (.tmp 18)),(.inr (.const (.int .i64 15)))],none⟩,
             ⟨(some 20),.un .not (.tmp 19),none⟩,
             ⟨(some 12),.take 20,none⟩])
          (.cond (.tmp 12) (.skip)
           (.seq (.region false [⟨(some 21),.fa 3 (.tmp 1),none⟩,
               ⟨(some 22),.ldc (.tmp 21),none⟩,
               ⟨(some 23),.call (.const (.fn 27 [] [])) [(.inr (.tmp 22)),(.inr (.const (.int .i64 1000000000000)))],none⟩,
               ⟨(some 24),.un .not (.tmp 23),none⟩,
               ⟨(some 12),.take 24,none⟩])
            (.cond (.tmp 12) (.skip)
             (.seq (.region false [⟨(some 25),.fa 4 (.tmp 1),none⟩,
                 ⟨(some 26),.ldc (.tmp 25),none⟩,
                 ⟨(some 27),.call (.const (.fn 27 [] [])) [(.inr (.tmp 26)),(.inr (.const (.int .i64 63)))],none⟩,
                 ⟨(some 28),.un .not (.tmp 27),none⟩,
                 ⟨(some 12),.take 28,none⟩])
              (.cond (.tmp 12) (.skip)
               (.region false [⟨(some 29),.fa 5 (.tmp 1),none⟩,
                  ⟨(some 30),.ldc (.tmp 29),none⟩,
                  ⟨(some 31),.call (.const (.fn 28 [] [])) [(.inr (.tmp 30))],none⟩,
                  ⟨(some 32),.un .not (.tmp 31),none⟩,
                  ⟨(some 12),.take 32,none⟩])))))))))
       (.cond (.tmp 12) (.seq (.region false [⟨(some 2),.mv (.const (.int .i64 2)),none⟩])
         (.ret))
        (.skip))))))
   (.seq (.region false [⟨(some 2),.mv (.const (.int .i64 0)),none⟩])
    (.ret)))
def XZ:AFn:=⟨33,[.tmp 2],IJ,false⟩
def IW:List Nat:=[8,9,10]
def RU:ZG :=
  .seq (.region false [⟨(some 1),.box 24 6 (.tmp 0),none⟩,
     ⟨(some 2),.mv (.const (.int .i64 0)),none⟩])
  (.seq (.seq (.region false [⟨(some 3),.fa 2 (.tmp 1),none⟩,
       ⟨(some 4),.ldc (.tmp 3),none⟩,
       ⟨(some 5),.bin .lss .prim (.tmp 4) (.const (.int .i64 1)),none⟩,
       ⟨(some 6),.mv (.tmp 5),none⟩,
       ⟨(some 7),.fa 2 (.tmp 1),(some (6,false))⟩,
       ⟨(some 8),.ldc (.tmp 7),(some (6,false))⟩,
       ⟨(some 9),.bin .gtr .prim (.tmp 8) (.const (.int .i64 18)),(some (6,false))⟩,
       ⟨(some 10),.pick (.tmp 6) (.const (.bool true)) (.tmp 9),none⟩])
    (.cond (.tmp 10) (.seq (.region false [⟨(some 2),.mv (.const (.int .i64 1)),none⟩])
      (.ret))
     (.skip)))
   (.seq (.seq (.region false [⟨(some 11),.fa 0 (.tmp 1),none⟩,
        ⟨(some 12),.ldc (.tmp 11),none⟩,
        ⟨(some 13),.call (.const (.fn 29 [] [])) [(.inr (.tmp 12)),(.inr (.const (.int .i64 1000000000)))],none⟩,
        ⟨(some 14),.un .not (.tmp 13),none⟩,
        ⟨(some 15),.mv (.tmp 14),none⟩,
        ⟨(some 16),.fa 1 (.tmp 1),(some (15,false))⟩,
        ⟨(some 17),.ldc (.tmp 16),(some (15,false))⟩,
        ⟨(some 18),.call (.const (.fn 29 [] [])) [(.inr (.tmp 17)),(.inr (.const (.int .i64 15)))],(some (15,false))⟩,
        ⟨(some 19),.un .not (.tmp 18),(some (15,false))⟩,
        ⟨(some 20),.pick (.tmp 15) (.const (.bool true)) (.tmp 19),none⟩,
        ⟨(some 21),.mv (.tmp 20),none⟩,
        ⟨(some 22),.fa 3 (.tmp 1),(some (21,false))⟩,
        ⟨(some 23),.ldc (.tmp 22),(some (21,false))⟩,
        ⟨(some 24),.call (.const (.fn 29 [] [])) [(.inr (.tmp 23)),(.inr (.const (.int .i64 1000000000000)))],(some (21,false))⟩,
        ⟨(some 25),.un .not (.tmp 24),(some (21,false))⟩,
        ⟨(some 26),.pick (.tmp 21) (.const (.bool true)) (.tmp 25),none⟩,
        ⟨(some 27),.mv (.tmp 26),none⟩,
        ⟨(some 28),.fa 4 (.tmp 1),(some (27,false))⟩,
        ⟨(some 29),.ldc (.tmp 28),(some (27,false))⟩,
        ⟨(some 30),.call (.const (.fn 29 [] [])) [(.inr (.tmp 29)),(.inr (.const (.int .i64 63)))],(some (27,false))⟩,
        ⟨(some 31),.un .not (.tmp 30),(some (27,false))⟩,
        ⟨(some 32),.pick (.tmp 27) (.const (.bool true)) (.tmp 31),none⟩,
        ⟨(some 33),.mv (.tmp 32),none⟩,
        ⟨(some 34),.fa 5 (.tmp 1),(some (33,false))⟩,
        ⟨(some 35),.ldc (.tmp 34),(some (33,false))⟩,
        ⟨(some 36),.call (.const (.fn 30 [] [])) [(.inr (.tmp 35))],(some (33,false))⟩,
        ⟨(some 37),.un .not (.tmp 36),(some (33,false))⟩,
        ⟨(some 38),.pick (.tmp 33) (.const (.bool true)) (.tmp 37),none⟩])
     (.cond (.tmp 38) (.seq (.region false [⟨(some 2),.mv (.const (.int .i64 2)),none⟩])
       (.ret))
      (.skip)))
    (.seq (.region false [⟨(some 2),.mv (.const (.int .i64 0)),none⟩])
     (.ret))))
def JH:AFn:=⟨39,[.tmp 2],RU,false⟩
def BI:List Nat:=[7,8,9,16,17,18,19,22,23,24,25,28,29,30,31,34,35,36,37]
def Td:ZG :=
  .seq (.region false [⟨(some 1),.box 24 6 (.tmp 0),none⟩,
     ⟨(some 2),.mv (.const (.str [])),none⟩])
  (.seq (.seq (.region false [⟨(some 3),.lda 6 (.tmp 1),none⟩,
       ⟨(some 4),.call (.const (.fn 12 [] [])) [(.inr (.tmp 3))],none⟩,
       ⟨(some 5),.bin .neq .prim (.tmp 4) (.const (.int .i64 0)),none⟩])
    (.cond (.tmp 5) (.seq (.region false [⟨(some 2),.mv (.const (.str [])),none⟩])
      (.ret))
     (.skip)))
   (.seq (.region true [⟨(some 6),.fa 0 (.tmp 1),none⟩,
       ⟨(some 7),.ldc (.tmp 6),none⟩,
       ⟨(some 8),.call (.const (.fn 32 [] [])) [(.inr (.tmp 7))],none⟩,
       ⟨(some 9),.fa 1 (.tmp 1),none⟩,
       ⟨(some 10),.ldc (.tmp 9),none⟩,
       ⟨(some 11),.call (.const (.fn 32 [] [])) [(.inr (.tmp 10))],none⟩,
       ⟨(some 12),.ldc (.glob 0),none⟩,
       ⟨(some 13),.fa 2 (.tmp 1),none⟩,
       ⟨(some 14),.ldc (.tmp 13),none⟩,
       ⟨(some 15),.bin .sub .prim (.tmp 14) (.const (.int .i64 1)),none⟩,
       ⟨(some 16),.ia (.slice 1) (.tmp 12) (.tmp 15),none⟩,
       ⟨(some 17),.ldc (.tmp 16),none⟩,
       ⟨(some 18),.fa 3 (.tmp 1),none⟩,
       ⟨(some 19),.ldc (.tmp 18),none⟩,
       ⟨(some 20),.call (.const (.fn 32 [] [])) [(.inr (.tmp 19))],none⟩,
       ⟨(some 21),.fa 4 (.tmp 1),none⟩,
       ⟨(some 22),.ldc (.tmp 21),none⟩,
       ⟨(some 23),.call (.const (.fn 32 [] [])) [(.inr (.tmp 22))],none⟩,
       ⟨(some 24),.fa 5 (.tmp 1),none⟩,
       ⟨(some 25),.ldc (.tmp 24),none⟩,
       ⟨(some 26),.call (.const (.fn 32 [] [])) [(.inr (.tmp 25))],none⟩,
       ⟨(some 27),.lit 9 1 [(.tmp 8),(.tmp 11),(.tmp 17),(.tmp 20),(.tmp 23),(.tmp 26)],none⟩,
       ⟨(some 28),.call (.const (.fn 31 [] [])) [(.inr (.tmp 27)),(.inr (.const (.str [32])))],none⟩,
       ⟨(some 2),.take 28,none⟩])
    (.ret)))
def V5:AFn:=⟨29,[.tmp 2],Td,false⟩
def TS:List Nat:=[]
def Qd:ZG :=
  .seq (.region false [⟨(some 23),.bin .lss .prim (.tmp 22) (.tmp 21),none⟩])
  (.seq (.cond (.tmp 23) (.skip)
    (.exit 0))
   (.seq (.block 1 (.seq (.region false [⟨(some 24),.ia (.slice 6) (.tmp 20) (.tmp 22),none⟩,
         ⟨(some 25),.lda 6 (.tmp 24),none⟩,
         ⟨(some 7),.mk 24 [(.int .i64 0),(.int .i64 0),(.int .i64 0),(.int .i64 0),(.int .i64 0),(.int .i64 0)],none⟩,
         ⟨none,.st 6 (.tmp 7) (.tmp 25),none⟩])
      (.seq (.seq (.region false [⟨(some 26),.lda 6 (.tmp 7),none⟩,
           ⟨(some 27),.call (.const (.fn 12 [] [])) [(.inr (.tmp 26))],none⟩,
           ⟨(some 8),.take 27,none⟩])
        (.seq (.region false [⟨(some 28),.mv (.tmp 8),none⟩,
            ⟨(some 29),.bin .neq .prim (.tmp 28) (.const (.int .i64 0)),none⟩])
         (.cond (.tmp 29) (.seq (.region false [⟨(some 30),.take 8,none⟩,
              ⟨(some 2),.mv (.const (.own 1 [])),none⟩,
              ⟨(some 3),.take 30,none⟩])
           (.ret))
          (.skip))))
       (.seq (.seq (.region false [⟨(some 31),.fa 0 (.tmp 7),none⟩,
            ⟨(some 32),.ldc (.tmp 31),none⟩,
            ⟨(some 33),.mv (.tmp 5),none⟩,
            ⟨(some 34),.bin .lss .prim (.tmp 32) (.tmp 33),none⟩])
         (.cond (.tmp 34) (.seq (.region false [⟨(some 2),.mv (.const (.own 1 [])),none⟩,
              ⟨(some 3),.mv (.const (.int .i64 12)),none⟩])
           (.ret))
          (.skip)))
        (.seq (.region false [⟨(some 35),.take 4,none⟩,
            ⟨(some 36),.lda 6 (.tmp 7),none⟩,
            ⟨(some 37),.mv (.tmp 5),none⟩,
            ⟨(some 38),.call (.const (.fn 34 [] [])) [(.inr (.tmp 36)),(.inr (.tmp 37))],none⟩,
            ⟨(some 39),.app 1 8 35 (.tmp 38),none⟩,
            ⟨(some 4),.take 39,none⟩])
         (.region false [⟨(some 40),.fa 0 (.tmp 7),none⟩,
            ⟨(some 41),.ldc (.tmp 40),none⟩,
            ⟨(some 5),.take 41,none⟩]))))))
    (.region false [⟨(some 42),.bin .add .prim (.tmp 22) (.const (.int .i64 1)),none⟩,
       ⟨(some 22),.mv (.tmp 42),none⟩])))
def XM:ZG:=.loop Qd
def XL:ZG :=
  .seq (.region false [⟨(some 9),.mk 34 [(.own 1 [])],none⟩])
  (.seq (.seq (.region false [⟨(some 43),.mv (.tmp 4),none⟩,
       ⟨(some 44),.call (.const (.fn 35 [] [])) [(.inr (.tmp 43)),(.inr (.const (.int .i64 1000)))],none⟩])
    (.block 2 (.bad)))
   (.seq (.region false [⟨(some 59),.ldt (.tmp 9),none⟩,
       ⟨(some 2),.take 59,none⟩,
       ⟨(some 3),.mv (.const (.int .i64 0)),none⟩])
    (.ret)))
def Yi:ZG :=
  .seq (.region false [⟨(some 2),.mv (.const (.own 1 [])),none⟩,
     ⟨(some 3),.mv (.const (.int .i64 0)),none⟩])
  (.seq (.seq (.region false [⟨(some 14),.mv (.tmp 0),none⟩,
       ⟨(some 15),.len .slice (.tmp 14),none⟩,
       ⟨(some 16),.bin .gtr .prim (.tmp 15) (.const (.int .i64 50000)),none⟩])
    (.cond (.tmp 16) (.seq (.region false [⟨(some 2),.mv (.const (.own 1 [])),none⟩,
         ⟨(some 3),.mv (.const (.int .i64 6)),none⟩])
      (.ret))
     (.skip)))
   (.seq (.region false [⟨(some 17),.mv (.tmp 0),none⟩,
       ⟨(some 18),.len .slice (.tmp 17),none⟩,
       ⟨(some 19),.lit 3 1 [(.tmp 18)],none⟩,
       ⟨(some 4),.take 19,none⟩])
    (.seq (.region false [⟨(some 5),.mv (.const (.int .i64 0)),none⟩])
     (.seq (.seq (.region false [⟨(some 20),.mv (.tmp 0),none⟩,
          ⟨(some 21),.len .slice (.tmp 20),none⟩,
          ⟨(some 22),.mv (.const (.int .i64 0)),none⟩])
       (.block 0 (XM)))
      XL))))
def Zw:AFn:=⟨60,[.tmp 2,.tmp 3],Yi,false⟩
def Zt:List Nat:=[]
theorem Iy:cFn Tryd.prog takes Tryd.f16=some Zw:=by kernel_rfl
theorem Je:(Tryd.f16.name == "runtime.NumGoroutine")=false:=by kernel_rfl
def Qc:ZG :=
  .seq (.region false [⟨(some 34),.bin .lss .prim (.tmp 33) (.tmp 32),none⟩])
  (.seq (.cond (.tmp 34) (.skip)
    (.exit 1))
   (.seq (.block 2 (.seq (.region false [⟨(some 8),.mk 24 [(.int .i64 0),(.int .i64 0),(.int .i64 0),(.int .i64 0),(.int .i64 0),(.int .i64 0)],none⟩])
      (.seq (.region false [⟨(some 35),.mv (.tmp 7),none⟩,
          ⟨(some 36),.mv (.tmp 4),none⟩,
          ⟨(some 37),.call (.const (.fn 38 [] [])) [(.inr (.tmp 36))],none⟩,
          ⟨(some 38),.bin .add .prim (.tmp 35) (.tmp 37),none⟩,
          ⟨(some 7),.take 38,none⟩])
       (.seq (.region false [⟨(some 39),.mv (.tmp 7),none⟩,
           ⟨(some 40),.fa 0 (.tmp 8),none⟩,
           ⟨none,.stt (.tmp 40) 39,none⟩])
        (.seq (.region false [⟨(some 41),.mv (.tmp 4),none⟩,
            ⟨(some 42),.call (.const (.fn 38 [] [])) [(.inr (.tmp 41))],none⟩,
            ⟨(some 43),.fa 1 (.tmp 8),none⟩,
            ⟨none,.stt (.tmp 43) 42,none⟩])
         (.seq (.region false [⟨(some 44),.mv (.tmp 4),none⟩,
             ⟨(some 45),.call (.const (.fn 38 [] [])) [(.inr (.tmp 44))],none⟩,
             ⟨(some 46),.fa 2 (.tmp 8),none⟩,
             ⟨none,.stt (.tmp 46) 45,none⟩])
          (.seq (.region false [⟨(some 47),.mv (.tmp 4),none⟩,
              ⟨(some 48),.call (.const (.fn 38 [] [])) [(.inr (.tmp 47))],none⟩,
              ⟨(some 49),.fa 3 (.tmp 8),none⟩,
              ⟨none,.stt (.tmp 49) 48,none⟩])
           (.seq (.region false [⟨(some 50),.mv (.tmp 4),none⟩,
               ⟨(some 51),.call (.const (.fn 38 [] [])) [(.inr (.tmp 50))],none⟩,
               ⟨(some 52),.fa 4 (.tmp 8),none⟩,
               ⟨none,.stt (.tmp 52) 51,none⟩])
            (.seq (.region false [⟨(some 53),.mv (.tmp 4),none⟩,
                ⟨(some 54),.call (.const (.fn 38 [] [])) [(.inr (.tmp 53))],none⟩,
                ⟨(some 55),.fa 5 (.tmp 8),none⟩,
                ⟨none,.stt (.tmp 55) 54,none⟩])
             (.seq (.seq (.region false [⟨(some 56),.mv (.tmp 4),none⟩,
                  ⟨(some 57),.nilchk (.tmp 56),none⟩,
                  ⟨(some 58),.fa 1 (.tmp 57),none⟩,
                  ⟨(some 59),.ldc (.tmp 58),none⟩,
                  ⟨(some 60),.bin .neq .prim (.tmp 59) (.const (.int .i64 0)),none⟩])
               (.cond (.tmp 60) (.seq (.region true [⟨(some 61),.mv (.tmp 4),none⟩,
                    ⟨(some 62),.nilchk (.tmp 61),none⟩,
                    ⟨(some 63),.fa 1 (.tmp 62),none⟩,
                    ⟨(some 64),.ldc (.tmp 63),none⟩,
                    ⟨(some 2),.mv (.const (.own 6 [])),none⟩,
                    ⟨(some 3),.mv (.tmp 64),none⟩])
                 (.ret))
                (.skip)))
              (.region false [⟨(some 65),.take 6,none⟩,
                 ⟨(some 66),.lda 6 (.tmp 8),none⟩,
                 ⟨(some 67),.lit 24 6 [(.tmp 66)],none⟩,
                 ⟨(some 68),.app 6 48 65 (.tmp 67),none⟩,
                 ⟨(some 6),.take 68,none⟩])))))))))))
    (.region false [⟨(some 69),.bin .add .prim (.tmp 33) (.const (.int .i64 1)),none⟩,
       ⟨(some 33),.mv (.tmp 69),none⟩])))
def XK:ZG:=.loop Qc
def XJ:ZG :=
  .seq (.region false [⟨(some 71),.mv (.tmp 6),none⟩,
     ⟨(some 72),.call (.const (.fn 16 [] [])) [(.inr (.tmp 71))],none⟩,
     ⟨(some 70),.mv (.tmp 72),none⟩,
     ⟨(some 73),.extract (.tmp 70) 0,none⟩,
     ⟨(some 74),.extract (.tmp 70) 1,none⟩,
     ⟨(some 9),.take 73,none⟩,
     ⟨(some 10),.take 74,none⟩])
  (.seq (.seq (.region false [⟨(some 75),.mv (.tmp 4),none⟩,
       ⟨(some 76),.nilchk (.tmp 75),none⟩,
       ⟨(some 77),.fa 0 (.tmp 76),none⟩,
       ⟨(some 78),.ldc (.tmp 77),none⟩,
       ⟨(some 79),.len .slice (.tmp 78),none⟩,
       ⟨(some 80),.bin .gtr .prim (.tmp 79) (.const (.int .i64 0)),none⟩,
       ⟨(some 81),.mv (.tmp 80),none⟩,
       ⟨(some 82),.mv (.tmp 10),(some (81,false))⟩,
       ⟨(some 83),.bin .neq .prim (.tmp 82) (.const (.int .i64 0)),(some (81,false))⟩,
       ⟨(some 84),.pick (.tmp 81) (.const (.bool true)) (.tmp 83),none⟩,
       ⟨(some 85),.mv (.tmp 84),none⟩,
       ⟨(some 86),.mv (.tmp 9),(some (85,false))⟩,
       ⟨(some 87),.mv (.tmp 0),(some (85,false))⟩,
       ⟨(some 88),.call (.const (.fn 39 [] [])) [(.inr (.tmp 86)),(.inr (.tmp 87))],(some (85,false))⟩,
       ⟨(some 89),.un .not (.tmp 88),(some (85,false))⟩,
       ⟨(some 90),.pick (.tmp 85) (.const (.bool true)) (.tmp 89),none⟩])
    (.cond (.tmp 90) (.seq (.region false [⟨(some 2),.mv (.const (.own 6 [])),none⟩,
         ⟨(some 3),.mv (.const (.int .i64 8)),none⟩])
      (.ret))
     (.skip)))
   (.seq (.region false [⟨(some 91),.take 6,none⟩,
       ⟨(some 2),.take 91,none⟩,
       ⟨(some 3),.mv (.const (.int .i64 0)),none⟩])
    (.ret)))
def Xv:ZG :=
  .seq (.region false [⟨(some 2),.mv (.const (.own 6 [])),none⟩,
     ⟨(some 3),.mv (.const (.int .i64 0)),none⟩])
  (.seq (.region false [⟨(some 11),.mv (.tmp 0),none⟩,
      ⟨(some 12),.build [(.own 1 []),(.int .i64 0)] [(0,1,(.tmp 11))],none⟩,
      ⟨(some 13),.box 64 2 (.tmp 12),none⟩,
      ⟨(some 4),.take 13,none⟩])
   (.seq (.region false [⟨(some 14),.mv (.tmp 4),none⟩,
       ⟨(some 15),.call (.const (.fn 38 [] [])) [(.inr (.tmp 14))],none⟩,
       ⟨(some 5),.take 15,none⟩])
    (.seq (.block 0 (.seq (.region false [⟨(some 17),.mv (.tmp 4),none⟩,
          ⟨(some 18),.nilchk (.tmp 17),none⟩,
          ⟨(some 19),.fa 1 (.tmp 18),none⟩,
          ⟨(some 20),.ldc (.tmp 19),none⟩,
          ⟨(some 21),.bin .neq .prim (.tmp 20) (.const (.int .i64 0)),none⟩,
          ⟨(some 16),.take 21,none⟩])
       (.cond (.tmp 16) (.seq (.region true [⟨(some 22),.mv (.tmp 4),none⟩,
            ⟨(some 23),.nilchk (.tmp 22),none⟩,
            ⟨(some 24),.fa 1 (.tmp 23),none⟩,
            ⟨(some 25),.ldc (.tmp 24),none⟩,
            ⟨(some 2),.mv (.const (.own 6 [])),none⟩,
            ⟨(some 3),.mv (.tmp 25),none⟩])
         (.ret))
        (.seq (.region false [⟨(some 27),.mv (.tmp 5),none⟩,
            ⟨(some 28),.bin .lss .prim (.tmp 27) (.const (.int .i64 0)),none⟩,
            ⟨(some 26),.take 28,none⟩])
         (.cond (.tmp 26) (.seq (.region false [⟨(some 2),.mv (.const (.own 6 [])),none⟩,
              ⟨(some 3),.mv (.const (.int .i64 8)),none⟩])
           (.ret))
          (.seq (.region false [⟨(some 30),.mv (.tmp 5),none⟩,
              ⟨(some 31),.bin .gtr .prim (.tmp 30) (.const (.int .i64 50000)),none⟩,
              ⟨(some 29),.take 31,none⟩])
           (.cond (.tmp 29) (.seq (.region false [⟨(some 2),.mv (.const (.own 6 [])),none⟩,
                ⟨(some 3),.mv (.const (.int .i64 6)),none⟩])
             (.ret))
            (.skip))))))))
     (.seq (.region false [⟨(some 6),.mv (.const (.own 6 [])),none⟩])
      (.seq (.region false [⟨(some 7),.mv (.const (.int .i64 0)),none⟩])
       (.seq (.seq (.region false [⟨(some 32),.mv (.tmp 5),none⟩,
            ⟨(some 33),.mv (.const (.int .i64 0)),none⟩])
         (.block 1 (XK)))
        XJ))))))
def ZW:AFn:=⟨92,[.tmp 2,.tmp 3],Xv,false⟩
def ZE:List Nat:=[82,83,86,87,88,89]
def Qb:ZG :=
  .seq (.seq (.region false [⟨(some 8),.mv (.tmp 4),none⟩,
      ⟨(some 9),.bin .geq .prim (.tmp 8) (.const (.int .u64 128)),none⟩])
   (.cond (.tmp 9) (.skip)
    (.exit 0)))
  (.block 1 (.seq (.region false [⟨(some 10),.mv (.tmp 5),none⟩,
       ⟨(some 11),.mv (.tmp 4),none⟩,
       ⟨(some 12),.conv (.int .u8) (.tmp 11),none⟩,
       ⟨(some 13),.bin .or .prim (.tmp 12) (.const (.int .u8 128)),none⟩,
       ⟨(some 14),.ia (.arr 10 1) (.tmp 3) (.tmp 10),none⟩,
       ⟨none,.stt (.tmp 14) 13,none⟩])
    (.seq (.region false [⟨(some 15),.mv (.tmp 4),none⟩,
        ⟨(some 16),.bin .shr .prim (.tmp 15) (.const (.int .u64 7)),none⟩,
        ⟨(some 4),.take 16,none⟩])
     (.region false [⟨(some 17),.mv (.tmp 5),none⟩,
        ⟨(some 18),.bin .add .prim (.tmp 17) (.const (.int .i64 1)),none⟩,
        ⟨(some 5),.take 18,none⟩]))))
def XI:ZG:=.loop Qb
def XH:ZG :=
  .seq (.region false [⟨(some 19),.mv (.tmp 5),none⟩,
     ⟨(some 20),.mv (.tmp 4),none⟩,
     ⟨(some 21),.conv (.int .u8) (.tmp 20),none⟩,
     ⟨(some 22),.ia (.arr 10 1) (.tmp 3) (.tmp 19),none⟩,
     ⟨none,.stt (.tmp 22) 21,none⟩])
  (.seq (.region false [⟨(some 23),.mv (.tmp 5),none⟩,
      ⟨(some 24),.bin .add .prim (.tmp 23) (.const (.int .i64 1)),none⟩,
      ⟨(some 25),.mv (.tmp 5),none⟩,
      ⟨(some 26),.bin .add .prim (.tmp 25) (.const (.int .i64 1)),none⟩,
      ⟨(some 27),.slice3 (.arr 10 1) (.tmp 3) (.tmp 24) (.tmp 26),none⟩,
      ⟨(some 2),.take 27,none⟩])
   (.ret))
def Xr:ZG :=
  .seq (.region false [⟨(some 2),.mv (.const (.own 1 [])),none⟩])
  (.seq (.region false [⟨(some 3),.mk 89 [(.int .u8 0),(.int .u8 0),(.int .u8 0),(.int .u8 0),(.int .u8 0),(.int .u8 0),(.int .u8 0),(.int .u8 0),(.int .u8 0),(.int .u8 0)],none⟩])
   (.seq (.region false [⟨(some 6),.mv (.tmp 0),none⟩,
       ⟨(some 7),.call (.const (.fn 61 [] [])) [(.inr (.tmp 6))],none⟩,
       ⟨(some 4),.take 7,none⟩])
    (.seq (.region false [⟨(some 5),.mv (.const (.int .i64 0)),none⟩])
     (.seq (.block 0 (XI))
      XH))))
def ZV:AFn:=⟨28,[.tmp 2],Xr,false⟩
def ZC:List Nat:=[]
def IG:ZG :=
  .seq (.region false [⟨(some 4),.mv (.const (.own 1 [])),none⟩])
  (.seq (.region false [⟨(some 7),.mv (.tmp 0),none⟩,
      ⟨(some 8),.len .slice (.tmp 7),none⟩,
      ⟨(some 9),.mv (.tmp 1),none⟩,
      ⟨(some 10),.len .slice (.tmp 9),none⟩,
      ⟨(some 11),.bin .add .prim (.tmp 8) (.tmp 10),none⟩,
      ⟨(some 12),.mksl 5 [(.int .u8 0)] (.tmp 11),none⟩,
      ⟨(some 5),.take 12,none⟩])
   (.seq (.region false [⟨(some 13),.mv (.tmp 5),none⟩,
       ⟨(some 14),.mv (.tmp 0),none⟩,
       ⟨(some 15),.copy 1 (.tmp 13) (.tmp 14),none⟩,
       ⟨(some 6),.take 15,none⟩])
    (.seq (.region false [⟨(some 16),.mv (.tmp 5),none⟩,
        ⟨(some 17),.mv (.tmp 6),none⟩,
        ⟨(some 18),.slice (.slice 1) (.tmp 16) (some (.tmp 17)) none,none⟩,
        ⟨(some 19),.mv (.tmp 1),none⟩,
        ⟨(some 20),.copy 1 (.tmp 18) (.tmp 19),none⟩])
     (.seq (.region false [⟨(some 21),.mv (.tmp 5),none⟩,
         ⟨(some 22),.mv (.tmp 5),none⟩,
         ⟨(some 23),.len .slice (.tmp 22),none⟩,
         ⟨(some 24),.mv (.tmp 5),none⟩,
         ⟨(some 25),.len .slice (.tmp 24),none⟩,
         ⟨(some 26),.slice3 (.slice 1) (.tmp 21) (.tmp 23) (.tmp 25),none⟩,
         ⟨(some 4),.take 26,none⟩])
      (.ret)))))
def XX:AFn:=⟨27,[.tmp 4],IG,false⟩
def IU:List Nat:=[]
def Ye:ZG :=
  .seq (.region false [⟨(some 9),.bin .lss .prim (.tmp 8) (.tmp 7),none⟩])
  (.seq (.cond (.tmp 9) (.skip)
    (.exit 0))
   (.seq (.block 1 (.seq (.region false [⟨(some 10),.mv (.tmp 8),none⟩,
         ⟨(some 5),.take 10,none⟩])
      (.seq (.region false [⟨(some 11),.mv (.tmp 1),none⟩,
          ⟨(some 12),.mv (.tmp 0),none⟩,
          ⟨(some 13),.mv (.tmp 5),none⟩,
          ⟨(some 14),.ia (.slice 1) (.tmp 12) (.tmp 13),none⟩,
          ⟨(some 15),.ldc (.tmp 14),none⟩,
          ⟨(some 16),.bin .eql .prim (.tmp 11) (.tmp 15),none⟩])
       (.cond (.tmp 16) (.seq (.region false [⟨(some 17),.take 5,none⟩,
            ⟨(some 4),.take 17,none⟩])
         (.ret))
        (.skip)))))
    (.region false [⟨(some 18),.bin .add .prim (.tmp 8) (.const (.int .i64 1)),none⟩,
       ⟨(some 8),.mv (.tmp 18),none⟩])))
def YL:ZG:=.loop Ye
def YK:ZG :=
  .seq (.region false [⟨(some 4),.mv (.const (.int .i64 (-1))),none⟩])
  (.ret)
def Yw:ZG :=
  .seq (.region false [⟨(some 4),.mv (.const (.int .i64 0)),none⟩])
  (.seq (.seq (.region false [⟨(some 6),.mv (.tmp 0),none⟩,
       ⟨(some 7),.len .slice (.tmp 6),none⟩,
       ⟨(some 8),.mv (.const (.int .i64 0)),none⟩])
    (.block 0 (YL)))
   YK)
def Zn:AFn:=⟨19,[.tmp 4],Yw,false⟩
def Zi:List Nat:=[]
def RV:ZG :=
  .seq (.region false [⟨(some 0),.mv (.const (.own 1 [])),none⟩])
  (.seq (.region false [⟨(some 1),.lit 9 1 [(.const (.str [])),(.const (.str [98,101,103,105,110])),(.const (.str [101,110,100])),(.const (.str [104,111,108,100])),(.const (.str [115,101,105,122,101])),(.const (.str [119,97,105,116,115])),(.const (.str [114,101,108,101,97,115,101])),(.const (.str [112,114,101,101,109,112,116])),(.const (.str [112,117,116])),(.const (.str [103,101,116])),(.const (.str [114,105,100,101])),(.const (.str [119,97,105,116])),(.const (.str [115,105,103,110,97,108])),(.const (.str [115,101,110,100])),(.const (.str [111,98,115,101,114,118,101])),(.const (.str [108,101,118,101,108])),(.const (.str [99,111,117,110,116])),(.const (.str [115,104,105,102,116])),(.const (.str [102,97,117,108,116]))],none⟩,
      ⟨(some 0),.take 1,none⟩])
   (.ret))
def JI:AFn:=⟨2,[.tmp 0],RV,false⟩
def BJ:List Nat:=[]
def G8:ZG :=
  .seq (.region false [⟨(some 4),.mv (.const (.bool false)),none⟩])
  (.seq (.region false [⟨(some 5),.mv (.tmp 0),none⟩,
      ⟨(some 6),.bin .geq .prim (.tmp 5) (.const (.int .i64 0)),none⟩,
      ⟨(some 7),.mv (.tmp 6),none⟩,
      ⟨(some 8),.mv (.tmp 0),(some (7,true))⟩,
      ⟨(some 9),.mv (.tmp 1),(some (7,true))⟩,
      ⟨(some 10),.bin .leq .prim (.tmp 8) (.tmp 9),(some (7,true))⟩,
      ⟨(some 11),.pick (.tmp 7) (.tmp 10) (.const (.bool false)),none⟩,
      ⟨(some 4),.take 11,none⟩])
   (.ret))
def Xo:AFn:=⟨12,[.tmp 4],G8,false⟩
def Ia:List Nat:=[8,9,10]
def EZ:ZG :=
  .seq (.region false [⟨(some 2),.mv (.const (.bool false)),none⟩])
  (.seq (.region false [⟨(some 3),.mv (.tmp 0),none⟩,
      ⟨(some 4),.bin .geq .prim (.tmp 3) (.const (.int .i64 (-1000000000000))),none⟩,
      ⟨(some 5),.mv (.tmp 4),none⟩,
      ⟨(some 6),.mv (.tmp 0),(some (5,true))⟩,
      ⟨(some 7),.bin .leq .prim (.tmp 6) (.const (.int .i64 1000000000000)),(some (5,true))⟩,
      ⟨(some 8),.pick (.tmp 5) (.tmp 7) (.const (.bool false)),none⟩,
      ⟨(some 2),.take 8,none⟩])
   (.ret))
def OU:AFn:=⟨9,[.tmp 2],EZ,false⟩
def FO:List Nat:=[6,7]
def MV:ZG :=
  .seq (.region false [⟨(some 4),.mv (.const (.bool false)),none⟩])
  (.seq (.region false [⟨(some 5),.mv (.tmp 0),none⟩,
      ⟨(some 6),.bin .geq .prim (.tmp 5) (.const (.int .i64 0)),none⟩,
      ⟨(some 7),.mv (.tmp 6),none⟩,
      ⟨(some 8),.mv (.tmp 0),(some (7,true))⟩,
      ⟨(some 9),.mv (.tmp 1),(some (7,true))⟩,
      ⟨(some 10),.bin .leq .prim (.tmp 8) (.tmp 9),(some (7,true))⟩,
      ⟨(some 11),.pick (.tmp 7) (.tmp 10) (.const (.bool false)),none⟩,
      ⟨(some 4),.take 11,none⟩])
   (.ret))
def VN:AFn:=⟨12,[.tmp 4],MV,false⟩
def LU:List Nat:=[8,9,10]
def Aa:ZG :=
  .seq (.region false [⟨(some 2),.mv (.const (.bool false)),none⟩])
  (.seq (.region false [⟨(some 3),.mv (.tmp 0),none⟩,
      ⟨(some 4),.bin .geq .prim (.tmp 3) (.const (.int .i64 (-1000000000000))),none⟩,
      ⟨(some 5),.mv (.tmp 4),none⟩,
      ⟨(some 6),.mv (.tmp 0),(some (5,true))⟩,
      ⟨(some 7),.bin .leq .prim (.tmp 6) (.const (.int .i64 1000000000000)),(some (5,true))⟩,
      ⟨(some 8),.pick (.tmp 5) (.tmp 7) (.const (.bool false)),none⟩,
      ⟨(some 2),.take 8,none⟩])
   (.ret))
def OV:AFn:=⟨9,[.tmp 2],Aa,false⟩
def FP:List Nat:=[6,7]
def G7:ZG :=
  .seq (.region false [⟨(some 2),.box 24 6 (.tmp 0),none⟩,
     ⟨(some 4),.mv (.const (.own 1 [])),none⟩])
  (.seq (.region false [⟨(some 5),.fa 0 (.tmp 2),none⟩,
      ⟨(some 6),.ldc (.tmp 5),none⟩,
      ⟨(some 7),.mv (.tmp 1),none⟩,
      ⟨(some 8),.bin .sub .prim (.tmp 6) (.tmp 7),none⟩,
      ⟨(some 9),.fa 1 (.tmp 2),none⟩,
      ⟨(some 10),.ldc (.tmp 9),none⟩,
      ⟨(some 11),.fa 2 (.tmp 2),none⟩,
      ⟨(some 12),.ldc (.tmp 11),none⟩,
      ⟨(some 13),.fa 3 (.tmp 2),none⟩,
      ⟨(some 14),.ldc (.tmp 13),none⟩,
      ⟨(some 15),.fa 4 (.tmp 2),none⟩,
      ⟨(some 16),.ldc (.tmp 15),none⟩,
      ⟨(some 17),.fa 5 (.tmp 2),none⟩,
      ⟨(some 18),.ldc (.tmp 17),none⟩,
      ⟨(some 19),.lit 3 1 [(.tmp 8),(.tmp 10),(.tmp 12),(.tmp 14),(.tmp 16),(.tmp 18)],none⟩,
      ⟨(some 4),.take 19,none⟩])
   (.ret))
def Xn:AFn:=⟨20,[.tmp 4],G7,false⟩
def HY:List Nat:=[]
def V7:ZG :=
  .seq (.region false [⟨(some 2),.mv (.const (.int .i64 0)),none⟩])
  (.seq (.seq (.region false [⟨(some 6),.mv (.tmp 0),none⟩,
       ⟨(some 7),.nilchk (.tmp 6),none⟩,
       ⟨(some 8),.fa 1 (.tmp 7),none⟩,
       ⟨(some 9),.ldc (.tmp 8),none⟩,
       ⟨(some 10),.bin .neq .prim (.tmp 9) (.const (.int .i64 0)),none⟩])
    (.cond (.tmp 10) (.seq (.region false [⟨(some 2),.mv (.const (.int .i64 0)),none⟩])
      (.ret))
     (.skip)))
   (.seq (.region false [⟨(some 12),.mv (.tmp 0),none⟩,
       ⟨(some 13),.nilchk (.tmp 12),none⟩,
       ⟨(some 14),.fa 0 (.tmp 13),none⟩,
       ⟨(some 15),.ldc (.tmp 14),none⟩,
       ⟨(some 16),.call (.const (.fn 51 [] [])) [(.inr (.tmp 15))],none⟩,
       ⟨(some 11),.mv (.tmp 16),none⟩,
       ⟨(some 17),.extract (.tmp 11) 0,none⟩,
       ⟨(some 18),.extract (.tmp 11) 1,none⟩,
       ⟨(some 19),.extract (.tmp 11) 2,none⟩,
       ⟨(some 3),.take 17,none⟩,
       ⟨(some 4),.take 18,none⟩,
       ⟨(some 5),.take 19,none⟩])
    (.seq (.region false [⟨(some 20),.mv (.tmp 0),none⟩,
        ⟨(some 21),.mv (.tmp 0),none⟩,
        ⟨(some 22),.mv (.tmp 0),none⟩,
        ⟨(some 23),.nilchk (.tmp 22),none⟩,
        ⟨(some 24),.fa 0 (.tmp 23),none⟩,
        ⟨(some 25),.ldc (.tmp 24),none⟩,
        ⟨(some 26),.mv (.tmp 4),none⟩,
        ⟨(some 27),.slice (.slice 1) (.tmp 25) (some (.tmp 26)) none,none⟩,
        ⟨(some 28),.mv (.tmp 5),none⟩,
        ⟨(some 29),.nilchk (.tmp 20),none⟩,
        ⟨(some 30),.fa 0 (.tmp 29),none⟩,
        ⟨none,.stt (.tmp 30) 27,none⟩,
        ⟨(some 31),.nilchk (.tmp 21),none⟩,
        ⟨(some 32),.fa 1 (.tmp 31),none⟩,
        ⟨none,.stt (.tmp 32) 28,none⟩])
     (.seq (.region false [⟨(some 33),.take 3,none⟩,
         ⟨(some 2),.take 33,none⟩])
      (.ret)))))
def We:AFn:=⟨34,[.tmp 2],V7,false⟩
def VC:List Nat:=[]
def OZ:ZG :=
  .seq (.region false [⟨(some 4),.mv (.const (.bool false)),none⟩])
  (.seq (.region false [⟨(some 5),.mv (.tmp 0),none⟩,
      ⟨(some 6),.conv .ofBytes (.tmp 5),none⟩,
      ⟨(some 7),.mv (.tmp 1),none⟩,
      ⟨(some 8),.conv .ofBytes (.tmp 7),none⟩,
      ⟨(some 9),.bin .eql .prim (.tmp 6) (.tmp 8),none⟩,
      ⟨(some 4),.take 9,none⟩])
   (.ret))
def V3:AFn:=⟨10,[.tmp 4],OZ,false⟩
def TQ:List Nat:=[]
def II:ZG :=
  .seq (.region false [⟨(some 2),.mv (.const (.int .u64 0)),none⟩])
  (.seq (.region false [⟨(some 3),.mv (.tmp 0),none⟩,
      ⟨(some 4),.conv (.int .u64) (.tmp 3),none⟩,
      ⟨(some 5),.bin .shl .prim (.tmp 4) (.const (.int .u64 1)),none⟩,
      ⟨(some 6),.mv (.tmp 0),none⟩,
      ⟨(some 7),.bin .shr .prim (.tmp 6) (.const (.int .u64 63)),none⟩,
      ⟨(some 8),.conv (.int .u64) (.tmp 7),none⟩,
      ⟨(some 9),.bin .xor .prim (.tmp 5) (.tmp 8),none⟩,
      ⟨(some 2),.take 9,none⟩])
   (.ret))
def XY:AFn:=⟨10,[.tmp 2],II,false⟩
def IV:List Nat:=[]
def Xq:ZG :=
  .seq (.region false [⟨(some 9),.bin .lss .prim (.tmp 8) (.const (.int .i64 10)),none⟩])
  (.seq (.cond (.tmp 9) (.skip)
    (.exit 0))
   (.seq (.block 1 (.seq (.region false [⟨(some 10),.mv (.tmp 8),none⟩,
         ⟨(some 6),.take 10,none⟩])
      (.seq (.seq (.region false [⟨(some 11),.mv (.tmp 6),none⟩,
           ⟨(some 12),.mv (.tmp 0),none⟩,
           ⟨(some 13),.len .slice (.tmp 12),none⟩,
           ⟨(some 14),.bin .geq .prim (.tmp 11) (.tmp 13),none⟩])
        (.cond (.tmp 14) (.seq (.region false [⟨(some 2),.mv (.const (.int .i64 0)),none⟩,
             ⟨(some 3),.mv (.const (.int .i64 0)),none⟩,
             ⟨(some 4),.mv (.const (.int .i64 7)),none⟩])
          (.ret))
         (.skip)))
       (.seq (.region false [⟨(some 15),.mv (.tmp 0),none⟩,
           ⟨(some 16),.mv (.tmp 6),none⟩,
           ⟨(some 17),.ia (.slice 1) (.tmp 15) (.tmp 16),none⟩,
           ⟨(some 18),.ldc (.tmp 17),none⟩,
           ⟨(some 7),.take 18,none⟩])
        (.seq (.seq (.region false [⟨(some 19),.mv (.tmp 6),none⟩,
             ⟨(some 20),.bin .eql .prim (.tmp 19) (.const (.int .i64 9)),none⟩,
             ⟨(some 21),.mv (.tmp 20),none⟩,
             ⟨(some 22),.mv (.tmp 7),(some (21,true))⟩,
             ⟨(some 23),.bin .gtr .prim (.tmp 22) (.const (.int .u8 1)),(some (21,true))⟩,
             ⟨(some 24),.pick (.tmp 21) (.tmp 23) (.const (.bool false)),none⟩])
          (.cond (.tmp 24) (.seq (.region false [⟨(some 2),.mv (.const (.int .i64 0)),none⟩,
               ⟨(some 3),.mv (.const (.int .i64 0)),none⟩,
               ⟨(some 4),.mv (.const (.int .i64 8)),none⟩])
            (.ret))
           (.skip)))
         (.seq (.region false [⟨(some 25),.mv (.tmp 5),none⟩,
             ⟨(some 26),.mv (.tmp 7),none⟩,
             ⟨(some 27),.bin .andNot .prim (.tmp 26) (.const (.int .u8 128)),none⟩,
             ⟨(some 28),.conv (.int .u64) (.tmp 27),none⟩,
             ⟨(some 29),.mv (.tmp 6),none⟩,
             ⟨(some 30),.bin .mul .prim (.const (.int .i64 7)) (.tmp 29),none⟩,
             ⟨(some 31),.bin .shl .prim (.tmp 28) (.tmp 30),none⟩,
             ⟨(some 32),.bin .or .prim (.tmp 25) (.tmp 31),none⟩,
             ⟨(some 5),.take 32,none⟩])
          (.seq (.seq (.region false [⟨(some 33),.mv (.tmp 7),none⟩,
               ⟨(some 34),.bin .and .prim (.tmp 33) (.const (.int .u8 128)),none⟩,
               ⟨(some 35),.bin .neq .prim (.tmp 34) (.const (.int .u8 0)),none⟩])
            (.cond (.tmp 35) (.exit 1)
             (.skip)))
           (.seq (.seq (.region false [⟨(some 36),.mv (.tmp 7),none⟩,
                ⟨(some 37),.bin .eql .prim (.tmp 36) (.const (.int .u8 0)),none⟩,
                ⟨(some 38),.mv (.tmp 37),none⟩,
                ⟨(some 39),.mv (.tmp 6),(some (38,true))⟩,
                ⟨(some 40),.bin .gtr .prim (.tmp 39) (.const (.int .i64 0)),(some (38,true))⟩,
                ⟨(some 41),.pick (.tmp 38) (.tmp 40) (.const (.bool false)),none⟩])
             (.cond (.tmp 41) (.seq (.region false [⟨(some 2),.mv (.const (.int .i64 0)),none⟩,
                  ⟨(some 3),.mv (.const (.int .i64 0)),none⟩,
                  ⟨(some 4),.mv (.const (.int .i64 8)),none⟩])
               (.ret))
              (.skip)))
            (.seq (.region false [⟨(some 42),.mv (.tmp 5),none⟩,
                ⟨(some 43),.call (.const (.fn 62 [] [])) [(.inr (.tmp 42))],none⟩,
                ⟨(some 44),.mv (.tmp 6),none⟩,
                ⟨(some 45),.bin .add .prim (.tmp 44) (.const (.int .i64 1)),none⟩,
                ⟨(some 2),.take 43,none⟩,
                ⟨(some 3),.take 45,none⟩,
                ⟨(some 4),.mv (.const (.int .i64 0)),none⟩])
             (.ret))))))))))
    (.region false [⟨(some 46),.bin .add .prim (.tmp 8) (.const (.int .i64 1)),none⟩,
       ⟨(some 8),.mv (.tmp 46),none⟩])))
def J3:ZG:=.loop Xq
def Jz:ZG :=
  .seq (.region false [⟨(some 2),.mv (.const (.int .i64 0)),none⟩,
     ⟨(some 3),.mv (.const (.int .i64 0)),none⟩,
     ⟨(some 4),.mv (.const (.int .i64 8)),none⟩])
  (.ret)
def JL:ZG :=
  .seq (.region false [⟨(some 2),.mv (.const (.int .i64 0)),none⟩,
     ⟨(some 3),.mv (.const (.int .i64 0)),none⟩,
     ⟨(some 4),.mv (.const (.int .i64 0)),none⟩])
  (.seq (.region false [⟨(some 5),.mv (.const (.int .u64 0)),none⟩])
   (.seq (.seq (.region false [⟨(some 8),.mv (.const (.int .i64 0)),none⟩])
     (.block 0 (J3)))
    Jz))
def YQ:AFn:=⟨47,[.tmp 2,.tmp 3,.tmp 4],JL,false⟩
def Yq:List Nat:=[22,23,39,40]
def G6:ZG :=
  .seq (.region false [⟨(some 2),.mv (.const (.int .i64 0)),none⟩])
  (.seq (.region false [⟨(some 3),.mv (.tmp 0),none⟩,
      ⟨(some 4),.bin .shr .prim (.tmp 3) (.const (.int .u64 1)),none⟩,
      ⟨(some 5),.conv (.int .i64) (.tmp 4),none⟩,
      ⟨(some 6),.mv (.tmp 0),none⟩,
      ⟨(some 7),.bin .and .prim (.tmp 6) (.const (.int .u64 1)),none⟩,
      ⟨(some 8),.conv (.int .i64) (.tmp 7),none⟩,
      ⟨(some 9),.un .neg (.tmp 8),none⟩,
      ⟨(some 10),.bin .xor .prim (.tmp 5) (.tmp 9),none⟩,
      ⟨(some 2),.take 10,none⟩])
   (.ret))
def Xm:AFn:=⟨11,[.tmp 2],G6,false⟩
def H9:List Nat:=[]
def tab:List (Nat×AFn):=[(3,Qa),(9,V4),(36,XW),(10,Yg),(11,Yb),(12,XZ),(13,JH),(14,V5),(18,ZW),(49,ZV),(48,XX),(23,Zn),(26,JI),(27,Xo),(28,OU),(29,VN),(30,OV),(34,Xn),(38,We),(39,V3),(61,XY),(51,YQ),(62,Xm)]
theorem Zd5:∀ p ∈ tab,∃ fn takes,Tryd.prog.funcs[p.1]? = some fn∧(fn.name == "runtime.NumGoroutine")=false∧cFn Tryd.prog takes fn=some p.2:=by
  intro p hp
  simp only [tab,List.mem_cons,List.not_mem_nil,or_false] at hp
  rcases hp with rfl | rfl | rfl | rfl | rfl | rfl | rfl | rfl | rfl | rfl | rfl | rfl | rfl | rfl | rfl | rfl | rfl | rfl | rfl | rfl | rfl | rfl | rfl
  · exact ⟨_,takes,Tryd.func3,by kernel_rfl,by kernel_rfl⟩
  · exact ⟨_,takes,Tryd.func9,by kernel_rfl,by kernel_rfl⟩
  · exact ⟨_,takes,Tryd.func36,by kernel_rfl,by kernel_rfl⟩
  · exact ⟨_,takes,Tryd.func10,by kernel_rfl,by kernel_rfl⟩
  · exact ⟨_,takes,Tryd.func11,by kernel_rfl,by kernel_rfl⟩
  · exact ⟨_,takes,Tryd.func12,by kernel_rfl,by kernel_rfl⟩
  · exact ⟨_,takes,Tryd.func13,by kernel_rfl,by kernel_rfl⟩
  · exact ⟨_,takes,Tryd.func14,by kernel_rfl,by kernel_rfl⟩
  · exact ⟨_,takes,Tryd.func18,by kernel_rfl,by kernel_rfl⟩
  · exact ⟨_,takes,Tryd.func49,by kernel_rfl,by kernel_rfl⟩
  · exact ⟨_,takes,Tryd.func48,by kernel_rfl,by kernel_rfl⟩
  · exact ⟨_,takes,Tryd.func23,by kernel_rfl,by kernel_rfl⟩
  · exact ⟨_,takes,Tryd.func26,by kernel_rfl,by kernel_rfl⟩
  · exact ⟨_,takes,Tryd.func27,by kernel_rfl,by kernel_rfl⟩
  · exact ⟨_,takes,Tryd.func28,by kernel_rfl,by kernel_rfl⟩
  · exact ⟨_,takes,Tryd.func29,by kernel_rfl,by kernel_rfl⟩
  · exact ⟨_,takes,Tryd.func30,by kernel_rfl,by kernel_rfl⟩
  · exact ⟨_,takes,Tryd.func34,by kernel_rfl,by kernel_rfl⟩
  · exact ⟨_,takes,Tryd.func38,by kernel_rfl,by kernel_rfl⟩
  · exact ⟨_,takes,Tryd.func39,by kernel_rfl,by kernel_rfl⟩
  · exact ⟨_,takes,Tryd.func61,by kernel_rfl,by kernel_rfl⟩
  · exact ⟨_,takes,Tryd.func51,by kernel_rfl,by kernel_rfl⟩
  · exact ⟨_,takes,Tryd.func62,by kernel_rfl,by kernel_rfl⟩
end Go.Proofs.YtdchnngpjjcchaaDoor
end
section
namespace Go.Proofs.YtdchnngpjjcchaaDoor
open Go Go.Proofs.YtdchnngpjjcchaaDoor.Abs
set_option maxRecDepth 100000
set_option maxHeartbeats 0
def Wl (G:GT)(K:KT)(L:Nat)(x0 x1:AV)(hp0:HP):KR :=
  Zj (Py 6 (AV.ro x0)) fun v1 =>
  Gj (hp0 ++ [.cells v1 Ze]) fun h0 =>
  Zj (Y3 h0 .str (AV.ro x1)) fun v2 =>
  Zj (Zd .gtr .prim v2 (.int .i64 200)) fun v3 =>
  ifK v3
  (YG (K Qp [] h0) fun v4 h5 f6 =>
  some (YV false hp0 v4 h5 (Zk hp0.length none f6)))
  (YG (K YA [(AV.ro x1)] h0) fun v7 h8 f9 =>
  Zj (Z9 (AV.ro v7) 0) fun v10 =>
  Zj (Z9 (AV.ro v7) 1) fun v11 =>
  Gj (h8 ++ [.cells [(.int .i64 0),(.int .i64 0),(.int .i64 0),(.int .i64 0),(.int .i64 0),(.int .i64 0)] Ze]) fun h12 =>
  X8 (stV hp0.length 6 (.ptr (h8).length 0) v10 h12 (Zk hp0.length none f9)) fun h13 f14 =>
  YG (K Vy [(AV.ro x1)] h13) fun v15 h16 f17 =>
  Zj (Z9 (AV.ro v15) 0) fun v18 =>
  Zj (Z9 (AV.ro v15) 1) fun v19 =>
  Gj (h16 ++ [.cells [(.int .i64 0),(.int .i64 0),(.int .i64 0),(.int .i64 0),(.int .i64 0),(.int .i64 0)] Ze]) fun h20 =>
  X8 (stV hp0.length 6 (.ptr (h16).length 0) v18 h20 (Zk hp0.length f14 f17)) fun h21 f22 =>
  Zj (ZJ h21 6 (.ptr (hp0).length 0)) fun v23 =>
  YG (ZL K Y9 [v23] h21) fun v24 h25 f26 =>
  Zj (ZJ h25 6 (.ptr (hp0).length 0)) fun v27 =>
  YG (ZL K Xk [v27] h25) fun v28 h29 f30 =>
  Zj (Zd .eql .prim (AV.ro v24) (AV.ro v28)) fun v31 =>
  Xi v31 true
  (Zj (ZJ h29 6 (.ptr (hp0).length 0)) fun v32 =>
  YG (ZL K YZ [v32] h29) fun v33 h34 f35 =>
  Zj (ZJ h34 6 (.ptr (hp0).length 0)) fun v36 =>
  YG (ZL K Jl [v36] h34) fun v37 h38 f39 =>
  Zj (Zd .eql .prim (AV.ro v33) (AV.ro v37)) fun v40 =>
  some (v40,h38,(Zk hp0.length (Zk hp0.length (Zk hp0.length (Zk hp0.length f22 f26) f30) f35) f39)))
  (some (.bool false)) h29 (Zk hp0.length (Zk hp0.length f22 f26) f30) fun v41 h42 f43 =>
  Xi (AV.ro v41) true
  (Zj (ZJ h42 6 (.ptr (h8).length 0)) fun v44 =>
  Zj (ZJ h42 6 (.ptr (h16).length 0)) fun v45 =>
  Zj (Zd .eql (.struct [.int,.int,.int,.int,.int,.int]) v44 v45) fun v46 =>
  some (v46,h42,f43))
  (some (.bool false)) h42 f43 fun v47 h48 f49 =>
  Xi (AV.ro v47) true
  (Zj (Zd .eql .prim v11 v19) fun v50 =>
  some (v50,h48,f49))
  (some (.bool false)) h48 f49 fun v51 h52 f53 =>
  Xi (AV.ro v51) true
  (YG (ZL K Qp [] h52) fun v54 h55 f56 =>
  some ((AV.ro v54),h55,(Zk hp0.length f53 f56)))
  (some (.bool false)) h52 f53 fun v57 h58 f59 =>
  some (YV false hp0 (AV.ro v57) h58 f59))
theorem VL (G:GT)(K:KT)(L:Nat)(x0 x1:AV)(hp0:HP):fnK G K Ua L Qa [x0,x1] hp0=Wl G K L x0 x1 hp0:=by
  kernel_rfl
theorem Jd {C:Cfg}(h:C.T YY=some Qa){n:Nat}{x0 x1:AV}{hp:HP}{r:AV×HP×Eff}(hr:Wl C.G (Zb C n) C.L x0 x1 hp=some r):Zb C (n + 1) YY [x0,x1] hp=some r:=Wx h (Nat.le_of_ble_eq_true rfl) ((VL ..).trans hr)
def V9 (G:GT)(K:KT)(L:Nat)(hp0:HP):KR :=
  Zj (fill [(.int .i64 0),(.int .i64 0),(.int .i64 0),(.int .i64 0),(.int .i64 0),(.int .i64 0)] [(0,1,AV.nm (.int .i64 1)),(2,1,AV.nm (.int .i64 1))]) fun v0 =>
  X8 (PL Ze 6 [(.agg v0)] hp0) fun v1 h2 =>
  YG (K Zq [(AV.ro v1)] h2) fun v3 h4 f5 =>
  Zj (Z9 (AV.ro v3) 0) fun v6 =>
  Zj (Z9 (AV.ro v3) 1) fun v7 =>
  YG (K Zq [(.own 6 [])] h4) fun v8 h9 f10 =>
  Zj (Z9 (AV.ro v8) 0) fun v11 =>
  Zj (Z9 (AV.ro v8) 1) fun v12 =>
  YG (K YA [(.str [49,48,32,48,32,104,111,108,100,32,51,32,48,32,53])] h9) fun v13 h14 f15 =>
  Zj (Z9 (AV.ro v13) 0) fun v16 =>
  Zj (Z9 (AV.ro v13) 1) fun v17 =>
  Gj (h14 ++ [.cells [(.int .i64 0),(.int .i64 0),(.int .i64 0),(.int .i64 0),(.int .i64 0),(.int .i64 0)] Ze]) fun h18 =>
  X8 (stV hp0.length 6 (.ptr (h14).length 0) v16 h18 (Zk hp0.length (Zk hp0.length (Zk hp0.length none f5) f10) f15)) fun h19 f20 =>
  YG (K YA [(.str [49,32,48,32,98,101,103,105,110,32,48,32,48,32,48,48])] h19) fun v21 h22 f23 =>
  Zj (Z9 (AV.ro v21) 0) fun v24 =>
  Zj (Z9 (AV.ro v21) 1) fun v25 =>
  Gj (h22 ++ [.cells [(.int .i64 0),(.int .i64 0),(.int .i64 0),(.int .i64 0),(.int .i64 0),(.int .i64 0)] Ze]) fun h26 =>
  X8 (stV hp0.length 6 (.ptr (h22).length 0) v24 h26 (Zk hp0.length f20 f23)) fun h27 f28 =>
  YG (K WB [v6] h27) fun v29 h30 f31 =>
  Zj (Z9 (AV.ro v29) 0) fun v32 =>
  Zj (Z9 (AV.ro v29) 1) fun v33 =>
  Zj (Zd .eql .prim v7 (.int .i64 0)) fun v34 =>
  Xi v34 true
  (Zj (Yo h30 .ofBytes v6) fun v35 =>
  Zj (Zd .eql .prim v35 (.str [2,2,0,2,0,0,0])) fun v36 =>
  some (v36,h30,(Zk hp0.length f28 f31)))
  (some (.bool false)) h30 (Zk hp0.length f28 f31) fun v37 h38 f39 =>
  Xi (AV.ro v37) true
  (Zj (Zd .eql .prim v12 (.int .i64 0)) fun v40 =>
  some (v40,h38,f39))
  (some (.bool false)) h38 f39 fun v41 h42 f43 =>
  Xi (AV.ro v41) true
  (Zj (Yo h42 .ofBytes v11) fun v44 =>
  Zj (Zd .eql .prim v44 (.str [0])) fun v45 =>
  some (v45,h42,f43))
  (some (.bool false)) h42 f43 fun v46 h47 f48 =>
  Xi (AV.ro v46) true
  (Zj (ZJ h47 6 (.ptr (h14).length 0)) fun v49 =>
  Zj (fill [(.int .i64 0),(.int .i64 0),(.int .i64 0),(.int .i64 0),(.int .i64 0),(.int .i64 0)] [(0,1,AV.nm (.int .i64 10)),(2,1,AV.nm (.int .i64 3)),(3,1,AV.nm (.int .i64 3)),(5,1,AV.nm (.int .i64 5))]) fun v50 =>
  Zj (Zd .eql (.struct [.int,.int,.int,.int,.int,.int]) v49 (.agg v50)) fun v51 =>
  some (v51,h47,f48))
  (some (.bool false)) h47 f48 fun v52 h53 f54 =>
  Xi (AV.ro v52) true
  (Zj (Zd .eql .prim v17 (.int .i64 0)) fun v55 =>
  some (v55,h53,f54))
  (some (.bool false)) h53 f54 fun v56 h57 f58 =>
  Xi (AV.ro v56) true
  (Zj (ZJ h57 6 (.ptr (h14).length 0)) fun v59 =>
  YG (K YZ [v59] h57) fun v60 h61 f62 =>
  Zj (Zd .eql .prim (AV.ro v60) (.str [49,48,32,48,32,104,111,108,100,32,51,32,48,32,53])) fun v63 =>
  some (v63,h61,(Zk hp0.length f58 f62)))
  (some (.bool false)) h57 f58 fun v64 h65 f66 =>
  Xi (AV.ro v64) true
  (Zj (Zd .eql .prim v25 (.int .i64 8)) fun v67 =>
  some (v67,h65,f66))
  (some (.bool false)) h65 f66 fun v68 h69 f70 =>
  Xi (AV.ro v68) true
  (Zj (Zd .eql .prim v33 (.int .i64 0)) fun v71 =>
  some (v71,h69,f70))
  (some (.bool false)) h69 f70 fun v72 h73 f74 =>
  Xi (AV.ro v72) true
  (Zj (Y3 h73 .slice v32) fun v75 =>
  Zj (Zd .eql .prim v75 (.int .i64 1)) fun v76 =>
  some (v76,h73,f74))
  (some (.bool false)) h73 f74 fun v77 h78 f79 =>
  Xi (AV.ro v77) true
  (Zj (fill [(.int .i64 0),(.int .i64 0),(.int .i64 0),(.int .i64 0),(.int .i64 0),(.int .i64 0)] []) fun v80 =>
  YG (K Y9 [(.agg v80)] h78) fun v81 h82 f83 =>
  Zj (Zd .eql .prim (AV.ro v81) (.int .i64 1)) fun v84 =>
  some (v84,h82,(Zk hp0.length f79 f83)))
  (some (.bool false)) h78 f79 fun v85 h86 f87 =>
  some (YV false hp0 v85 h86 f87)
theorem KU (G:GT)(K:KT)(L:Nat)(hp0:HP):fnK G K TR L V4 [] hp0=V9 G K L  hp0:=by
  kernel_rfl
theorem Hq {C:Cfg}(h:C.T Qp=some V4){n:Nat}{hp:HP}{r:AV×HP×Eff}(hr:V9 C.G (Zb C n) C.L  hp=some r):Zb C (n + 1) Qp [] hp=some r:=Wx h (Nat.le_of_ble_eq_true rfl) ((KU ..).trans hr)
def Vd (G:GT)(K:KT)(L:Nat)(x0 x1:AV)(hp0:HP):KR :=
  YG (K Qn [(AV.ro x1)] hp0) fun v0 h1 f2 =>
  YG (K QK [(AV.ro x0),(AV.ro v0)] h1) fun v3 h4 f5 =>
  some (YV false hp0 v3 h4 (Zk hp0.length (Zk hp0.length none f2) f5))
theorem UI (G:GT)(K:KT)(L:Nat)(x0 x1:AV)(hp0:HP):fnK G K IR L XW [x0,x1] hp0=Vd G K L x0 x1 hp0:=by
  kernel_rfl
theorem KN {C:Cfg}(h:C.T XQ=some XW){n:Nat}{x0 x1:AV}{hp:HP}{r:AV×HP×Eff}(hr:Vd C.G (Zb C n) C.L x0 x1 hp=some r):Zb C (n + 1) XQ [x0,x1] hp=some r:=Wx h (Nat.le_of_ble_eq_true rfl) ((UI ..).trans hr)
def Yp (G:GT)(K:KT)(L:Nat)(hp0:HP)(x0:AV)(x2:AV)(y2:AV)(x4:AV)(x5:AV)(hp:HP)(ef:Eff):KR :=
  Zj (Yn (.arr 6 1) x5 (.int .i64 0)) fun v11 =>
  Zj (Zu hp v11) fun v12 =>
  Zj (Yn (.arr 6 1) x5 (.int .i64 1)) fun v13 =>
  Zj (Zu hp v13) fun v14 =>
  Zj ((G 0).map AV.ref) fun g15 =>
  Zj (Zu hp g15) fun v16 =>
  Zj (Yn (.slice 1) x4 (.int .i64 2)) fun v17 =>
  Zj (Zu hp v17) fun v18 =>
  YG (ZH K ZR [v16,v18] hp) fun v19 h20 f21 =>
  Zj (Zd .add .prim (.int .i64 1) (AV.ro v19)) fun v22 =>
  Zj (Yn (.arr 6 1) x5 (.int .i64 3)) fun v23 =>
  Zj (Zu h20 v23) fun v24 =>
  Zj (Yn (.arr 6 1) x5 (.int .i64 4)) fun v25 =>
  Zj (Zu h20 v25) fun v26 =>
  Zj (Yn (.arr 6 1) x5 (.int .i64 5)) fun v27 =>
  Zj (Zu h20 v27) fun v28 =>
  Zj (fill [(.int .i64 0),(.int .i64 0),(.int .i64 0),(.int .i64 0),(.int .i64 0),(.int .i64 0)] [(0,1,AV.nm v12),(1,1,AV.nm v14),(2,1,AV.nm v22),(3,1,AV.nm v24),(4,1,AV.nm v26),(5,1,AV.nm v28)]) fun v29 =>
  Gj (h20 ++ [.cells [(.int .i64 0),(.int .i64 0),(.int .i64 0),(.int .i64 0),(.int .i64 0),(.int .i64 0)] Ze]) fun h30 =>
  X8 (stV hp0.length 6 (.ptr (h20).length 0) (.agg v29) h30 (Zk hp0.length ef f21)) fun h31 f32 =>
  Zj (ZJ h31 6 (.ptr (h20).length 0)) fun v33 =>
  YG (K YZ [v33] h31) fun v34 h35 f36 =>
  Zj (Zd .neq .prim (AV.ro v34) x0) fun v37 =>
  ifK v37
  (Zj (fill [(.int .i64 0),(.int .i64 0),(.int .i64 0),(.int .i64 0),(.int .i64 0),(.int .i64 0)] []) fun v38 =>
  X8 (stV hp0.length 6 x2 (.agg v38) h35 (Zk hp0.length f32 f36)) fun h39 f40 =>
  Zj (ZJ h39 6 y2) fun v41 =>
  some (YV false hp0 (.tup [(AV.nm v41),(AV.nm (.int .i64 8))]) h39 f40))
  (Zj (ZJ h35 6 (.ptr (h20).length 0)) fun v42 =>
  X8 (stV hp0.length 6 x2 v42 h35 (Zk hp0.length f32 f36)) fun h43 f44 =>
  Zj (ZJ h43 6 y2) fun v45 =>
  some (YV false hp0 (.tup [(AV.nm v45),(AV.nm (.int .i64 0))]) h43 f44))
theorem Js (G:GT)(K:KT)(L:Nat)(hp0:HP)   : ZX G 53 hp0.length K ZM L Vm (Ql ZM Yg hp0) (Ql ZM Yg hp0) []=fun e hp ef=>Yp G K L hp0  (e 0).rd (e 2).rd (e 2).val (e 4).rd (e 5).rd hp ef:=by
  kernel_rfl
def Yc (G:GT)(K:KT)(L:Nat)(hp0:HP)(k0:AV→AV→AV→AV→AV→HP→Eff→KR):Nat→AV→AV→AV→AV→AV→AV→AV→AV→HP→Eff→KR
  | 0,_,_,_,_,_,_,_,_,_,_=>none
  | m + 1,x0,x2,y2,x4,x5,x15,x16,x17,hp,ef =>
    Zj (Zd .lss .prim x17 x16) fun v47 =>
    ifK v47
    (Zj (Yn (.slice 1) x15 x17) fun v48 =>
    Zj (Zu hp v48) fun v49 =>
    YG (K JE [v49] hp) fun v50 h51 f52 =>
    Zj (Z9 (AV.ro v50) 0) fun v53 =>
    Zj (Z9 (AV.ro v50) 1) fun v54 =>
    Zj (Yn (.arr 6 1) x5 x17) fun v55 =>
    X8 (Oa hp0.length v55 v53 h51 (Zk hp0.length ef f52)) fun h56 f57 =>
    Zj (Zd .add .prim x17 (.int .i64 1)) fun v58 =>
    Yc G K L hp0 k0 m x0 x2 y2 x4 x5 x15 x16 v58 h56 f57)
    (k0 x0 x2 y2 x4 x5 hp ef)
theorem Ju (G:GT)(K:KT)(L:Nat)(hp0:HP)(k0:AV→AV→AV→AV→AV→HP→Eff→KR)  : ∀ m,Vs (fun n'=>ZX G 53 hp0.length K ZM L Qu n' (Ql ZM Yg hp0) [(0,(fun e hp ef=>k0 (e 0).rd (e 2).rd (e 2).val (e 4).rd (e 5).rd hp ef))]) m=fun e hp ef=>Yc G K L hp0 k0 m (e 0).rd (e 2).rd (e 2).val (e 4).rd (e 5).rd (e 15).rd (e 16).rd (e 17).rd hp ef:=by
  intro m
  induction m with
  | zero=>rfl
  | succ m ih =>
    show ZX G 53 hp0.length K ZM L Qu (Vs _ m) (Ql ZM Yg hp0) [(0,(fun e hp ef=>k0 (e 0).rd (e 2).rd (e 2).val (e 4).rd (e 5).rd hp ef))]=_
    rw [ih]
    kernel_rfl
theorem Jt (G:GT)(K:KT)(L:Nat)(hp0:HP)(k0:AV→AV→AV→AV→AV→HP→Eff→KR)(zn:VJ):ZX G 53 hp0.length K ZM L Vo zn (Ql ZM Yg hp0) [(0,(fun e hp ef=>k0 (e 0).rd (e 2).rd (e 2).val (e 4).rd (e 5).rd hp ef))]=fun e hp ef=>Yc G K L hp0 k0 L (e 0).rd (e 2).rd (e 2).val (e 4).rd (e 5).rd (e 15).rd (e 16).rd (e 17).rd hp ef:=Ju G K L hp0 k0  L
def WT (G:GT)(K:KT)(L:Nat)(x0:AV)(hp0:HP):KR :=
  Gj (hp0 ++ [.cells [(.int .i64 0),(.int .i64 0),(.int .i64 0),(.int .i64 0),(.int .i64 0),(.int .i64 0)] Ze]) fun h0 =>
  YG (K Xl [(AV.ro x0),(.str [32])] h0) fun v1 h2 f3 =>
  Zj (Y3 h2 .slice (AV.ro v1)) fun v4 =>
  Zj (Zd .neq .prim v4 (.int .i64 6)) fun v5 =>
  ifK v5
  (Zj (fill [(.int .i64 0),(.int .i64 0),(.int .i64 0),(.int .i64 0),(.int .i64 0),(.int .i64 0)] []) fun v6 =>
  X8 (stV hp0.length 6 (.ptr (hp0).length 0) (.agg v6) h2 (Zk hp0.length none f3)) fun h7 f8 =>
  Zj (ZJ h7 6 (.ptr (hp0).length 0)) fun v9 =>
  some (YV false hp0 (.tup [(AV.nm v9),(AV.nm (.int .i64 8))]) h7 f8))
  (Gj (h2 ++ [.cells [(.int .i64 0),(.int .i64 0),(.int .i64 0),(.int .i64 0),(.int .i64 0),(.int .i64 0)] WJ]) fun h10 =>
  Zj (Y3 h10 .slice (AV.ro v1)) fun v46 =>
  Yc G K L hp0 (Yp G K L hp0) L (AV.ro x0) (.ptr (hp0).length 0) (.ptr (hp0).length 0) (AV.ro v1) (.ptr (h2).length 0) (AV.ro v1) v46 (.int .i64 0) h10 (Zk hp0.length none f3))
theorem UU (G:GT)(K:KT)(L:Nat)(x0:AV)(hp0:HP):fnK G K ZM L Yg [x0] hp0=WT G K L x0 hp0:=by
  show ZX G 53 hp0.length K ZM L Vb (Ql ZM Yg hp0) (Ql ZM Yg hp0) [] (Df [x0]) hp0 none=_
  simp only [Vb,Qv,Wi,Wj,WM]
  rw [Js G K L hp0  ,Jt G K L hp0 (Yp G K L hp0)  _]
  kernel_rfl
theorem KY {C:Cfg}(h:C.T YA=some Yg){n:Nat}{x0:AV}{hp:HP}{r:AV×HP×Eff}(hr:WT C.G (Zb C n) C.L x0 hp=some r):Zb C (n + 1) YA [x0] hp=some r:=Wx h (Nat.le_of_ble_eq_true rfl) ((UU ..).trans hr)
def WS (G:GT)(K:KT)(L:Nat)(hp0:HP)(x2:AV)(y2:AV)(hp:HP)(ef:Eff):KR :=
  Zj (fill [(.int .i64 0),(.int .i64 0),(.int .i64 0),(.int .i64 0),(.int .i64 0),(.int .i64 0)] []) fun v14 =>
  X8 (stV hp0.length 6 x2 (.agg v14) hp ef) fun h15 f16 =>
  Zj (ZJ h15 6 y2) fun v17 =>
  some (YV false hp0 (.tup [(AV.nm v17),(AV.nm (.int .i64 8))]) h15 f16)
theorem UM (G:GT)(K:KT)(L:Nat)(hp0:HP)   : ZX G 79 hp0.length K Z7 L J4 (Ql Z7 Yb hp0) (Ql Z7 Yb hp0) []=fun e hp ef=>WS G K L hp0  (e 2).rd (e 2).val hp ef:=by
  kernel_rfl
def YB (G:GT)(K:KT)(L:Nat)(hp0:HP)(k2:AV→AV→HP→Eff→KR):Nat→AV→AV→AV→AV→AV→AV→AV→AV→HP→Eff→KR
  | 0,_,_,_,_,_,_,_,_,_,_=>none
  | m + 1,x0,x2,y2,x4,x5,x6,x8,x9,hp,ef =>
    Zj (Y3 hp .slice x8) fun v18 =>
    Zj (Zd .lss .prim x9 v18) fun v19 =>
    ifK v19
    (Zj (Yn (.arr 6 1) x5 (.int .i64 0)) fun v20 =>
    Zj (Zu hp v20) fun v21 =>
    Zj (Yn (.arr 6 1) x5 (.int .i64 1)) fun v22 =>
    Zj (Zu hp v22) fun v23 =>
    Zj (Yn (.arr 6 1) x5 (.int .i64 3)) fun v24 =>
    Zj (Zu hp v24) fun v25 =>
    Zj (Yn (.arr 6 1) x5 (.int .i64 4)) fun v26 =>
    Zj (Zu hp v26) fun v27 =>
    Zj (Yn (.arr 6 1) x5 (.int .i64 5)) fun v28 =>
    Zj (Zu hp v28) fun v29 =>
    Zj (fill [(.int .i64 0),(.int .i64 0),(.int .i64 0),(.int .i64 0),(.int .i64 0),(.int .i64 0)] [(0,1,AV.nm v21),(1,1,AV.nm v23),(2,1,AV.nm x9),(3,1,AV.nm v25),(4,1,AV.nm v27),(5,1,AV.nm v29)]) fun v30 =>
    Gj (hp ++ [.cells [(.int .i64 0),(.int .i64 0),(.int .i64 0),(.int .i64 0),(.int .i64 0),(.int .i64 0)] Ze]) fun h31 =>
    X8 (stV hp0.length 6 (.ptr (hp).length 0) (.agg v30) h31 ef) fun h32 f33 =>
    Xi x6 true
    (Zj (Yn (.slice 1) x8 x9) fun v34 =>
    Zj (Zu h32 v34) fun v35 =>
    Zj (Yn (.slice 1) x4 (.int .i64 2)) fun v36 =>
    Zj (Zu h32 v36) fun v37 =>
    Zj (Zd .eql .prim v35 v37) fun v38 =>
    some (v38,h32,f33))
    (some (.bool false)) h32 f33 fun v39 h40 f41 =>
    Xi (AV.ro v39) true
    (Zj (ZJ h40 6 (.ptr (hp).length 0)) fun v42 =>
    YG (ZL K Xk [v42] h40) fun v43 h44 f45 =>
    Zj (Zd .eql .prim (AV.ro v43) (.int .i64 0)) fun v46 =>
    some (v46,h44,(Zk hp0.length f41 f45)))
    (some (.bool false)) h40 f41 fun v47 h48 f49 =>
    Xi (AV.ro v47) true
    (Zj (ZJ h48 6 (.ptr (hp).length 0)) fun v50 =>
    YG (ZL K Jl [v50] h48) fun v51 h52 f53 =>
    Zj (Zd .eql .prim (AV.ro v51) x0) fun v54 =>
    some (v54,h52,(Zk hp0.length f49 f53)))
    (some (.bool false)) h48 f49 fun v55 h56 f57 =>
    ifK (AV.ro v55)
    (Zj (ZJ h56 6 (.ptr (hp).length 0)) fun v58 =>
    X8 (stV hp0.length 6 x2 v58 h56 f57) fun h59 f60 =>
    Zj (ZJ h59 6 y2) fun v61 =>
    some (YV false hp0 (.tup [(AV.nm v61),(AV.nm (.int .i64 0))]) h59 f60))
    (Zj (Zd .add .prim x9 (.int .i64 1)) fun v62 =>
    YB G K L hp0 k2 m x0 x2 y2 x4 x5 x6 x8 v62 h56 f57))
    (k2 x2 y2 hp ef)
theorem UR (G:GT)(K:KT)(L:Nat)(hp0:HP)(k2:AV→AV→HP→Eff→KR)  : ∀ m,Vs (fun n'=>ZX G 79 hp0.length K Z7 L Xu n' (Ql Z7 Yb hp0) [(2,(fun e hp ef=>k2 (e 2).rd (e 2).val hp ef))]) m=fun e hp ef=>YB G K L hp0 k2 m (e 0).rd (e 2).rd (e 2).val (e 4).rd (e 5).rd (e 6).rd (e 8).rd (e 9).rd hp ef:=by
  intro m
  induction m with
  | zero=>rfl
  | succ m ih =>
    show ZX G 79 hp0.length K Z7 L Xu (Vs _ m) (Ql Z7 Yb hp0) [(2,(fun e hp ef=>k2 (e 2).rd (e 2).val hp ef))]=_
    rw [ih]
    kernel_rfl
theorem UQ (G:GT)(K:KT)(L:Nat)(hp0:HP)(k2:AV→AV→HP→Eff→KR)(zn:VJ):ZX G 79 hp0.length K Z7 L J6 zn (Ql Z7 Yb hp0) [(2,(fun e hp ef=>k2 (e 2).rd (e 2).val hp ef))]=fun e hp ef=>YB G K L hp0 k2 L (e 0).rd (e 2).rd (e 2).val (e 4).rd (e 5).rd (e 6).rd (e 8).rd (e 9).rd hp ef:=UR G K L hp0 k2  L
def Wu (G:GT)(K:KT)(L:Nat)(hp0:HP)(x0:AV)(x2:AV)(y2:AV)(x4:AV)(x5:AV)(x6:AV)(hp:HP)(ef:Eff):KR :=
  YG (K Vz [] hp) fun v11 h12 f13 =>
  YB G K L hp0 (WS G K L hp0) L x0 x2 y2 x4 x5 x6 (AV.ro v11) (.int .i64 1) h12 (Zk hp0.length ef f13)
theorem UL (G:GT)(K:KT)(L:Nat)(hp0:HP)   : ZX G 79 hp0.length K Z7 L Va (Ql Z7 Yb hp0) (Ql Z7 Yb hp0) []=fun e hp ef=>Wu G K L hp0  (e 0).rd (e 2).rd (e 2).val (e 4).rd (e 5).rd (e 6).rd hp ef:=by
  simp only [Va,Qv,Wi,Wj,WM]
  rw [UM G K L hp0  ,UQ G K L hp0 (WS G K L hp0)  _]
  kernel_rfl
def Yh (G:GT)(K:KT)(L:Nat)(hp0:HP)(k0:AV→AV→AV→AV→AV→AV→HP→Eff→KR):Nat→AV→AV→AV→AV→AV→AV→AV→HP→Eff→KR
  | 0,_,_,_,_,_,_,_,_,_=>none
  | m + 1,x0,x2,y2,x4,x5,x6,x7,hp,ef =>
    Zj (Zd .lss .prim x7 (.int .i64 6)) fun v63 =>
    ifK v63
    (Zj (Zd .neq .prim x7 (.int .i64 2)) fun v64 =>
    Xi v64 true
    (some (x6,hp,ef))
    (some (.bool false)) hp ef fun v65 h66 f67 =>
    ifK (AV.ro v65)
    (Zj (Yn (.slice 1) x4 x7) fun v68 =>
    Zj (Zu h66 v68) fun v69 =>
    YG (K JF [v69] h66) fun v70 h71 f72 =>
    Zj (Z9 (AV.ro v70) 0) fun v73 =>
    Zj (Z9 (AV.ro v70) 1) fun v74 =>
    Zj (Yn (.arr 6 1) x5 x7) fun v75 =>
    X8 (Oa hp0.length v75 v73 h71 (Zk hp0.length f67 f72)) fun h76 f77 =>
    Zj (Zd .add .prim x7 (.int .i64 1)) fun v78 =>
    Yh G K L hp0 k0 m x0 x2 y2 x4 x5 v74 v78 h76 f77)
    (Zj (Zd .add .prim x7 (.int .i64 1)) fun v79 =>
    Yh G K L hp0 k0 m x0 x2 y2 x4 x5 x6 v79 h66 f67))
    (k0 x0 x2 y2 x4 x5 x6 hp ef)
theorem UO (G:GT)(K:KT)(L:Nat)(hp0:HP)(k0:AV→AV→AV→AV→AV→AV→HP→Eff→KR)  : ∀ m,Vs (fun n'=>ZX G 79 hp0.length K Z7 L Xt n' (Ql Z7 Yb hp0) [(0,(fun e hp ef=>k0 (e 0).rd (e 2).rd (e 2).val (e 4).rd (e 5).rd (e 6).rd hp ef))]) m=fun e hp ef=>Yh G K L hp0 k0 m (e 0).rd (e 2).rd (e 2).val (e 4).rd (e 5).rd (e 6).rd (e 7).rd hp ef:=by
  intro m
  induction m with
  | zero=>rfl
  | succ m ih =>
    show ZX G 79 hp0.length K Z7 L Xt (Vs _ m) (Ql Z7 Yb hp0) [(0,(fun e hp ef=>k0 (e 0).rd (e 2).rd (e 2).val (e 4).rd (e 5).rd (e 6).rd hp ef))]=_
    rw [ih]
    kernel_rfl
theorem UN (G:GT)(K:KT)(L:Nat)(hp0:HP)(k0:AV→AV→AV→AV→AV→AV→HP→Eff→KR)(zn:VJ):ZX G 79 hp0.length K Z7 L J5 zn (Ql Z7 Yb hp0) [(0,(fun e hp ef=>k0 (e 0).rd (e 2).rd (e 2).val (e 4).rd (e 5).rd (e 6).rd hp ef))]=fun e hp ef=>Yh G K L hp0 k0 L (e 0).rd (e 2).rd (e 2).val (e 4).rd (e 5).rd (e 6).rd (e 7).rd hp ef:=UO G K L hp0 k0  L
def Xz (G:GT)(K:KT)(L:Nat)(x0:AV)(hp0:HP):KR :=
  Gj (hp0 ++ [.cells [(.int .i64 0),(.int .i64 0),(.int .i64 0),(.int .i64 0),(.int .i64 0),(.int .i64 0)] Ze]) fun h0 =>
  YG (K JG [(AV.ro x0)] h0) fun v1 h2 f3 =>
  Zj (Y3 h2 .slice (AV.ro v1)) fun v4 =>
  Zj (Zd .neq .prim v4 (.int .i64 6)) fun v5 =>
  ifK v5
  (Zj (fill [(.int .i64 0),(.int .i64 0),(.int .i64 0),(.int .i64 0),(.int .i64 0),(.int .i64 0)] []) fun v6 =>
  X8 (stV hp0.length 6 (.ptr (hp0).length 0) (.agg v6) h2 (Zk hp0.length none f3)) fun h7 f8 =>
  Zj (ZJ h7 6 (.ptr (hp0).length 0)) fun v9 =>
  some (YV false hp0 (.tup [(AV.nm v9),(AV.nm (.int .i64 8))]) h7 f8))
  (Gj (h2 ++ [.cells [(.int .i64 0),(.int .i64 0),(.int .i64 0),(.int .i64 0),(.int .i64 0),(.int .i64 0)] WJ]) fun h10 =>
  Yh G K L hp0 (Wu G K L hp0) L (AV.ro x0) (.ptr (hp0).length 0) (.ptr (hp0).length 0) (AV.ro v1) (.ptr (h2).length 0) (.bool true) (.int .i64 0) h10 (Zk hp0.length none f3))
theorem IM (G:GT)(K:KT)(L:Nat)(x0:AV)(hp0:HP):fnK G K Z7 L Yb [x0] hp0=Xz G K L x0 hp0:=by
  show ZX G 79 hp0.length K Z7 L JO (Ql Z7 Yb hp0) (Ql Z7 Yb hp0) [] (Df [x0]) hp0 none=_
  simp only [JO,Qv,Wi,Wj,WM]
  rw [UL G K L hp0  ,UN G K L hp0 (Wu G K L hp0)  _]
  kernel_rfl
theorem TW {C:Cfg}(h:C.T Vy=some Yb){n:Nat}{x0:AV}{hp:HP}{r:AV×HP×Eff}(hr:Xz C.G (Zb C n) C.L x0 hp=some r):Zb C (n + 1) Vy [x0] hp=some r:=Wx h (Nat.le_of_ble_eq_true rfl) ((IM ..).trans hr)
def QM (G:GT)(K:KT)(L:Nat)(x0:AV)(hp0:HP):KR :=
  Zj (Py 6 (AV.ro x0)) fun v1 =>
  Gj (hp0 ++ [.cells v1 Ze]) fun h0 =>
  Zj (Ym 2 (.ptr (hp0).length 0)) fun v2 =>
  Zj (Zu h0 v2) fun v3 =>
  Zj (Zd .lss .prim v3 (.int .i64 1)) fun v4 =>
  Xi v4 false
  (Zj (Ym 2 (.ptr (hp0).length 0)) fun v5 =>
  Zj (Zu h0 v5) fun v6 =>
  Zj (Zd .gtr .prim v6 (.int .i64 18)) fun v7 =>
  some (v7,h0,none))
  (some (.bool true)) h0 none fun v8 h9 f10 =>
  ifK (AV.ro v8)
  (some (YV false hp0 (.int .i64 1) h9 f10))
  (Zj (Ym 0 (.ptr (hp0).length 0)) fun v11 =>
  Zj (Zu h9 v11) fun v12 =>
  YG (K YD [v12,(.int .i64 1000000000)] h9) fun v13 h14 f15 =>
  Zj (XE .not (AV.ro v13)) fun v16 =>
  ifK v16
  (ifK v16
  (some (YV false hp0 (.int .i64 2) h14 (Zk hp0.length f10 f15)))
  (some (YV false hp0 (.int .i64 0) h14 (Zk hp0.length f10 f15))))
  (Zj (Ym 1 (.ptr (hp0).length 0)) fun v17 =>
  Zj (Zu h14 v17) fun v18 =>
  YG (K YD [v18,(.int .i64 15)] h14) fun v19 h20 f21 =>
  Zj (XE .not (AV.ro v19)) fun v22 =>
  ifK v22
  (ifK v22
  (some (YV false hp0 (.int .i64 2) h20 (Zk hp0.length (Zk hp0.length f10 f15) f21)))
  (some (YV false hp0 (.int .i64 0) h20 (Zk hp0.length (Zk hp0.length f10 f15) f21))))
  (Zj (Ym 3 (.ptr (hp0).length 0)) fun v23 =>
  Zj (Zu h20 v23) fun v24 =>
  YG (K YD [v24,(.int .i64 1000000000000)] h20) fun v25 h26 f27 =>
  Zj (XE .not (AV.ro v25)) fun v28 =>
  ifK v28
  (ifK v28
  (some (YV false hp0 (.int .i64 2) h26 (Zk hp0.length (Zk hp0.length (Zk hp0.length f10 f15) f21) f27)))
  (some (YV false hp0 (.int .i64 0) h26 (Zk hp0.length (Zk hp0.length (Zk hp0.length f10 f15) f21) f27))))
  (Zj (Ym 4 (.ptr (hp0).length 0)) fun v29 =>
  Zj (Zu h26 v29) fun v30 =>
  YG (K YD [v30,(.int .i64 63)] h26) fun v31 h32 f33 =>
  Zj (XE .not (AV.ro v31)) fun v34 =>
  ifK v34
  (ifK v34
  (some (YV false hp0 (.int .i64 2) h32 (Zk hp0.length (Zk hp0.length (Zk hp0.length (Zk hp0.length f10 f15) f21) f27) f33)))
  (some (YV false hp0 (.int .i64 0) h32 (Zk hp0.length (Zk hp0.length (Zk hp0.length (Zk hp0.length f10 f15) f21) f27) f33))))
  (Zj (Ym 5 (.ptr (hp0).length 0)) fun v35 =>
  Zj (Zu h32 v35) fun v36 =>
  YG (K Gf [v36] h32) fun v37 h38 f39 =>
  Zj (XE .not (AV.ro v37)) fun v40 =>
  ifK v40
  (some (YV false hp0 (.int .i64 2) h38 (Zk hp0.length (Zk hp0.length (Zk hp0.length (Zk hp0.length (Zk hp0.length f10 f15) f21) f27) f33) f39)))
  (some (YV false hp0 (.int .i64 0) h38 (Zk hp0.length (Zk hp0.length (Zk hp0.length (Zk hp0.length (Zk hp0.length f10 f15) f21) f27) f33) f39))))))))
theorem UT (G:GT)(K:KT)(L:Nat)(x0:AV)(hp0:HP):fnK G K IW L XZ [x0] hp0=QM G K L x0 hp0:=by
  kernel_rfl
theorem KX {C:Cfg}(h:C.T Y9=some XZ){n:Nat}{x0:AV}{hp:HP}{r:AV×HP×Eff}(hr:QM C.G (Zb C n) C.L x0 hp=some r):Zb C (n + 1) Y9 [x0] hp=some r:=Wx h (Nat.le_of_ble_eq_true rfl) ((UT ..).trans hr)
def VA (G:GT)(K:KT)(L:Nat)(x0:AV)(hp0:HP):KR :=
  Zj (Py 6 (AV.ro x0)) fun v1 =>
  Gj (hp0 ++ [.cells v1 Ze]) fun h0 =>
  Zj (Ym 2 (.ptr (hp0).length 0)) fun v2 =>
  Zj (Zu h0 v2) fun v3 =>
  Zj (Zd .lss .prim v3 (.int .i64 1)) fun v4 =>
  Xi v4 false
  (Zj (Ym 2 (.ptr (hp0).length 0)) fun v5 =>
  Zj (Zu h0 v5) fun v6 =>
  Zj (Zd .gtr .prim v6 (.int .i64 18)) fun v7 =>
  some (v7,h0,none))
  (some (.bool true)) h0 none fun v8 h9 f10 =>
  ifK (AV.ro v8)
  (some (YV false hp0 (.int .i64 1) h9 f10))
  (Zj (Ym 0 (.ptr (hp0).length 0)) fun v11 =>
  Zj (Zu h9 v11) fun v12 =>
  YG (K WA [v12,(.int .i64 1000000000)] h9) fun v13 h14 f15 =>
  Zj (XE .not (AV.ro v13)) fun v16 =>
  Xi v16 false
  (Zj (Ym 1 (.ptr (hp0).length 0)) fun v17 =>
  Zj (Zu h14 v17) fun v18 =>
  YG (K WA [v18,(.int .i64 15)] h14) fun v19 h20 f21 =>
  Zj (XE .not (AV.ro v19)) fun v22 =>
  some (v22,h20,(Zk hp0.length (Zk hp0.length f10 f15) f21)))
  (some (.bool true)) h14 (Zk hp0.length f10 f15) fun v23 h24 f25 =>
  Xi (AV.ro v23) false
  (Zj (Ym 3 (.ptr (hp0).length 0)) fun v26 =>
  Zj (Zu h24 v26) fun v27 =>
  YG (K WA [v27,(.int .i64 1000000000000)] h24) fun v28 h29 f30 =>
  Zj (XE .not (AV.ro v28)) fun v31 =>
  some (v31,h29,(Zk hp0.length f25 f30)))
  (some (.bool true)) h24 f25 fun v32 h33 f34 =>
  Xi (AV.ro v32) false
  (Zj (Ym 4 (.ptr (hp0).length 0)) fun v35 =>
  Zj (Zu h33 v35) fun v36 =>
  YG (K WA [v36,(.int .i64 63)] h33) fun v37 h38 f39 =>
  Zj (XE .not (AV.ro v37)) fun v40 =>
  some (v40,h38,(Zk hp0.length f34 f39)))
  (some (.bool true)) h33 f34 fun v41 h42 f43 =>
  Xi (AV.ro v41) false
  (Zj (Ym 5 (.ptr (hp0).length 0)) fun v44 =>
  Zj (Zu h42 v44) fun v45 =>
  YG (K Gg [v45] h42) fun v46 h47 f48 =>
  Zj (XE .not (AV.ro v46)) fun v49 =>
  some (v49,h47,(Zk hp0.length f43 f48)))
  (some (.bool true)) h42 f43 fun v50 h51 f52 =>
  ifK (AV.ro v50)
  (some (YV false hp0 (.int .i64 2) h51 f52))
  (some (YV false hp0 (.int .i64 0) h51 f52)))
theorem IL (G:GT)(K:KT)(L:Nat)(x0:AV)(hp0:HP):fnK G K BI L JH [x0] hp0=VA G K L x0 hp0:=by
  kernel_rfl
theorem TV {C:Cfg}(h:C.T Xk=some JH){n:Nat}{x0:AV}{hp:HP}{r:AV×HP×Eff}(hr:VA C.G (Zb C n) C.L x0 hp=some r):Zb C (n + 1) Xk [x0] hp=some r:=Wx h (Nat.le_of_ble_eq_true rfl) ((IL ..).trans hr)
def Xa (G:GT)(K:KT)(L:Nat)(x0:AV)(hp0:HP):KR :=
  Zj (Py 6 (AV.ro x0)) fun v1 =>
  Gj (hp0 ++ [.cells v1 Ze]) fun h0 =>
  Zj (ZJ h0 6 (.ptr (hp0).length 0)) fun v2 =>
  YG (K Y9 [v2] h0) fun v3 h4 f5 =>
  Zj (Zd .neq .prim (AV.ro v3) (.int .i64 0)) fun v6 =>
  ifK v6
  (some (YV false hp0 (.str []) h4 (Zk hp0.length none f5)))
  (Zj (Ym 0 (.ptr (hp0).length 0)) fun v7 =>
  Zj (Zu h4 v7) fun v8 =>
  YG (ZL K QD [v8] h4) fun v9 h10 f11 =>
  Zj (Ym 1 (.ptr (hp0).length 0)) fun v12 =>
  Zj (Zu h10 v12) fun v13 =>
  YG (ZL K QD [v13] h10) fun v14 h15 f16 =>
  Zj ((G 0).map AV.ref) fun g17 =>
  Zj (Zu h15 g17) fun v18 =>
  Zj (Ym 2 (.ptr (hp0).length 0)) fun v19 =>
  Zj (Zu h15 v19) fun v20 =>
  Zj (Zd .sub .prim v20 (.int .i64 1)) fun v21 =>
  Zj (Yn (.slice 1) v18 v21) fun v22 =>
  Zj (Zu h15 v22) fun v23 =>
  Zj (Ym 3 (.ptr (hp0).length 0)) fun v24 =>
  Zj (Zu h15 v24) fun v25 =>
  YG (ZL K QD [v25] h15) fun v26 h27 f28 =>
  Zj (Ym 4 (.ptr (hp0).length 0)) fun v29 =>
  Zj (Zu h27 v29) fun v30 =>
  YG (ZL K QD [v30] h27) fun v31 h32 f33 =>
  Zj (Ym 5 (.ptr (hp0).length 0)) fun v34 =>
  Zj (Zu h32 v34) fun v35 =>
  YG (ZL K QD [v35] h32) fun v36 h37 f38 =>
  X8 (PL Rq 1 [(AV.ro v9),(AV.ro v14),v23,(AV.ro v26),(AV.ro v31),(AV.ro v36)] h37) fun v39 h40 =>
  YG (ZL K XR [(AV.ro v39),(.str [32])] h40) fun v41 h42 f43 =>
  some (YV false hp0 v41 h42 (Zk hp0.length (Zk hp0.length (Zk hp0.length (Zk hp0.length (Zk hp0.length (Zk hp0.length (Zk hp0.length none f5) f11) f16) f28) f33) f38) f43)))
theorem KW (G:GT)(K:KT)(L:Nat)(x0:AV)(hp0:HP):fnK G K TS L V5 [x0] hp0=Xa G K L x0 hp0:=by
  kernel_rfl
theorem Ie {C:Cfg}(h:C.T YZ=some V5){n:Nat}{x0:AV}{hp:HP}{r:AV×HP×Eff}(hr:Xa C.G (Zb C n) C.L x0 hp=some r):Zb C (n + 1) YZ [x0] hp=some r:=Wx h (Nat.le_of_ble_eq_true rfl) ((KW ..).trans hr)
def Wv (G:GT)(K:KT)(L:Nat)(hp0:HP)(x4:AV)(hp:HP)(ef:Eff):KR :=
  Gj (hp ++ [.cells [(.own 1 [])] EH]) fun h5 =>
  YG (K Vj [x4,(.int .i64 1000)] h5) fun v6 h7 f8 =>
  none
theorem VY (G:GT)(K:KT)(L:Nat)(hp0:HP)   : ZX G 60 hp0.length K Zt L XL (Ql Zt Zw hp0) (Ql Zt Zw hp0) []=fun e hp ef=>Wv G K L hp0  (e 4).rd hp ef:=by
  kernel_rfl
def Z4 (G:GT)(K:KT)(L:Nat)(hp0:HP)(k0:AV→HP→Eff→KR):Nat→AV→AV→AV→AV→AV→AV→HP→Eff→KR
  | 0,_,_,_,_,_,_,_,_=>none
  | m + 1,x4,y4,x5,x20,x21,x22,hp,ef =>
    Zj (Zd .lss .prim x22 x21) fun v10 =>
    ifK v10
    (Zj (Yn (.slice 6) x20 x22) fun v11 =>
    Zj (ZJ hp 6 v11) fun v12 =>
    Gj (hp ++ [.cells [(.int .i64 0),(.int .i64 0),(.int .i64 0),(.int .i64 0),(.int .i64 0),(.int .i64 0)] Ze]) fun h13 =>
    X8 (stV hp0.length 6 (.ptr (hp).length 0) v12 h13 ef) fun h14 f15 =>
    Zj (ZJ h14 6 (.ptr (hp).length 0)) fun v16 =>
    YG (K Y9 [v16] h14) fun v17 h18 f19 =>
    Zj (Zd .neq .prim (AV.ro v17) (.int .i64 0)) fun v20 =>
    ifK v20
    (some (YV false hp0 (.tup [(AV.nm (.own 1 [])),(AV.nm v17)]) h18 (Zk hp0.length f15 f19)))
    (Zj (Ym 0 (.ptr (hp).length 0)) fun v21 =>
    Zj (Zu h18 v21) fun v22 =>
    Zj (Zd .lss .prim v22 x5) fun v23 =>
    ifK v23
    (some (YV false hp0 (.tup [(AV.nm (.own 1 [])),(AV.nm (.int .i64 12))]) h18 (Zk hp0.length f15 f19)))
    (Zj (ZJ h18 6 (.ptr (hp).length 0)) fun v24 =>
    YG (K Qq [v24,x5] h18) fun v25 h26 f27 =>
    Zj (ES 1 8 y4 (AV.ro v25) h26) fun v28 =>
    Zj (Ym 0 (.ptr (hp).length 0)) fun v29 =>
    Zj (Zu h26 v29) fun v30 =>
    Zj (Zd .add .prim x22 (.int .i64 1)) fun v31 =>
    Z4 G K L hp0 k0 m (AV.ro v28) v28 v30 x20 x21 v31 h26 (Zk hp0.length (Zk hp0.length f15 f19) f27))))
    (k0 x4 hp ef)
theorem VZ (G:GT)(K:KT)(L:Nat)(hp0:HP)(k0:AV→HP→Eff→KR)  : ∀ m,Vs (fun n'=>ZX G 60 hp0.length K Zt L Qd n' (Ql Zt Zw hp0) [(0,(fun e hp ef=>k0 (e 4).rd hp ef))]) m=fun e hp ef=>Z4 G K L hp0 k0 m (e 4).rd (e 4).val (e 5).rd (e 20).rd (e 21).rd (e 22).rd hp ef:=by
  intro m
  induction m with
  | zero=>rfl
  | succ m ih =>
    show ZX G 60 hp0.length K Zt L Qd (Vs _ m) (Ql Zt Zw hp0) [(0,(fun e hp ef=>k0 (e 4).rd hp ef))]=_
    rw [ih]
    kernel_rfl
theorem QO (G:GT)(K:KT)(L:Nat)(hp0:HP)(k0:AV→HP→Eff→KR)(zn:VJ):ZX G 60 hp0.length K Zt L XM zn (Ql Zt Zw hp0) [(0,(fun e hp ef=>k0 (e 4).rd hp ef))]=fun e hp ef=>Z4 G K L hp0 k0 L (e 4).rd (e 4).val (e 5).rd (e 20).rd (e 21).rd (e 22).rd hp ef:=VZ G K L hp0 k0  L
def Qx (G:GT)(K:KT)(L:Nat)(x0:AV)(hp0:HP):KR :=
  Zj (Y3 hp0 .slice (AV.ro x0)) fun v0 =>
  Zj (Zd .gtr .prim v0 (.int .i64 50000)) fun v1 =>
  ifK v1
  (some (YV false hp0 (.tup [(AV.nm (.own 1 [])),(AV.nm (.int .i64 6))]) hp0 none))
  (Zj (Y3 hp0 .slice (AV.ro x0)) fun v2 =>
  X8 (PL Ro 1 [v2] hp0) fun v3 h4 =>
  Zj (Y3 h4 .slice (AV.ro x0)) fun v9 =>
  Z4 G K L hp0 (Wv G K L hp0) L (AV.ro v3) v3 (.int .i64 0) (AV.ro x0) v9 (.int .i64 0) h4 none)
theorem Un (G:GT)(K:KT)(L:Nat)(x0:AV)(hp0:HP):fnK G K Zt L Zw [x0] hp0=Qx G K L x0 hp0:=by
  show ZX G 60 hp0.length K Zt L Yi (Ql Zt Zw hp0) (Ql Zt Zw hp0) [] (Df [x0]) hp0 none=_
  simp only [Yi,Qv,Wi,Wj,WM]
  rw [VY G K L hp0  ,QO G K L hp0 (Wv G K L hp0)  _]
  kernel_rfl
theorem Ku {C:Cfg}(h:C.T Zq=some Zw){n:Nat}{x0:AV}{hp:HP}{r:AV×HP×Eff}(hr:Qx C.G (Zb C n) C.L x0 hp=some r):Zb C (n + 1) Zq [x0] hp=some r:=Wx h (Nat.le_of_ble_eq_true rfl) ((Un ..).trans hr)
def Y2 (G:GT)(K:KT)(L:Nat)(hp0:HP)(x0:AV)(x4:AV)(x6:AV)(y6:AV)(hp:HP)(ef:Eff):KR :=
  YG (K Zq [x6] hp) fun v15 h16 f17 =>
  Zj (Z9 (AV.ro v15) 0) fun v18 =>
  Zj (Z9 (AV.ro v15) 1) fun v19 =>
  Zj (WF x4) fun v20 =>
  Zj (Ym 0 v20) fun v21 =>
  Zj (Zu h16 v21) fun v22 =>
  Zj (Y3 h16 .slice v22) fun v23 =>
  Zj (Zd .gtr .prim v23 (.int .i64 0)) fun v24 =>
  Xi v24 false
  (Zj (Zd .neq .prim v19 (.int .i64 0)) fun v25 =>
  some (v25,h16,(Zk hp0.length ef f17)))
  (some (.bool true)) h16 (Zk hp0.length ef f17) fun v26 h27 f28 =>
  Xi (AV.ro v26) false
  (YG (K QY [v18,x0] h27) fun v29 h30 f31 =>
  Zj (XE .not (AV.ro v29)) fun v32 =>
  some (v32,h30,(Zk hp0.length f28 f31)))
  (some (.bool true)) h27 f28 fun v33 h34 f35 =>
  ifK (AV.ro v33)
  (some (YV false hp0 (.tup [(AV.nm (.own 6 [])),(AV.nm (.int .i64 8))]) h34 f35))
  (some (YV false hp0 (.tup [(AV.nm y6),(AV.nm (.int .i64 0))]) h34 f35))
theorem VV (G:GT)(K:KT)(L:Nat)(hp0:HP)   : ZX G 92 hp0.length K ZE L XJ (Ql ZE ZW hp0) (Ql ZE ZW hp0) []=fun e hp ef=>Y2 G K L hp0  (e 0).rd (e 4).rd (e 6).rd (e 6).val hp ef:=by
  kernel_rfl
def ZF (G:GT)(K:KT)(L:Nat)(hp0:HP)(k1:AV→AV→AV→AV→HP→Eff→KR):Nat→AV→AV→AV→AV→AV→AV→AV→HP→Eff→KR
  | 0,_,_,_,_,_,_,_,_,_=>none
  | m + 1,x0,x4,x6,y6,x7,x32,x33,hp,ef =>
    Zj (Zd .lss .prim x33 x32) fun v36 =>
    ifK v36
    (Gj (hp ++ [.cells [(.int .i64 0),(.int .i64 0),(.int .i64 0),(.int .i64 0),(.int .i64 0),(.int .i64 0)] Ze]) fun h37 =>
    YG (K Zv [x4] h37) fun v38 h39 f40 =>
    Zj (Zd .add .prim x7 (AV.ro v38)) fun v41 =>
    Zj (Ym 0 (.ptr (hp).length 0)) fun v42 =>
    X8 (Oa hp0.length v42 v41 h39 (Zk hp0.length ef f40)) fun h43 f44 =>
    YG (K Zv [x4] h43) fun v45 h46 f47 =>
    Zj (Ym 1 (.ptr (hp).length 0)) fun v48 =>
    X8 (Oa hp0.length v48 v45 h46 (Zk hp0.length f44 f47)) fun h49 f50 =>
    YG (K Zv [x4] h49) fun v51 h52 f53 =>
    Zj (Ym 2 (.ptr (hp).length 0)) fun v54 =>
    X8 (Oa hp0.length v54 v51 h52 (Zk hp0.length f50 f53)) fun h55 f56 =>
    YG (K Zv [x4] h55) fun v57 h58 f59 =>
    Zj (Ym 3 (.ptr (hp).length 0)) fun v60 =>
    X8 (Oa hp0.length v60 v57 h58 (Zk hp0.length f56 f59)) fun h61 f62 =>
    YG (K Zv [x4] h61) fun v63 h64 f65 =>
    Zj (Ym 4 (.ptr (hp).length 0)) fun v66 =>
    X8 (Oa hp0.length v66 v63 h64 (Zk hp0.length f62 f65)) fun h67 f68 =>
    YG (K Zv [x4] h67) fun v69 h70 f71 =>
    Zj (Ym 5 (.ptr (hp).length 0)) fun v72 =>
    X8 (Oa hp0.length v72 v69 h70 (Zk hp0.length f68 f71)) fun h73 f74 =>
    Zj (WF x4) fun v75 =>
    Zj (Ym 1 v75) fun v76 =>
    Zj (Zu h73 v76) fun v77 =>
    Zj (Zd .neq .prim v77 (.int .i64 0)) fun v78 =>
    ifK v78
    (Zj (WF x4) fun v79 =>
    Zj (Ym 1 v79) fun v80 =>
    Zj (Zu h73 v80) fun v81 =>
    some (YV false hp0 (.tup [(AV.nm (.own 6 [])),(AV.nm v81)]) h73 f74))
    (Zj (ZJ h73 6 (.ptr (hp).length 0)) fun v82 =>
    X8 (PL Ze 6 [v82] h73) fun v83 h84 =>
    Zj (ES 6 48 y6 (AV.ro v83) h84) fun v85 =>
    Zj (Zd .add .prim x33 (.int .i64 1)) fun v86 =>
    ZF G K L hp0 k1 m x0 x4 (AV.ro v85) v85 v41 x32 v86 h84 f74))
    (k1 x0 x4 x6 y6 hp ef)
theorem VX (G:GT)(K:KT)(L:Nat)(hp0:HP)(k1:AV→AV→AV→AV→HP→Eff→KR)  : ∀ m,Vs (fun n'=>ZX G 92 hp0.length K ZE L Qc n' (Ql ZE ZW hp0) [(1,(fun e hp ef=>k1 (e 0).rd (e 4).rd (e 6).rd (e 6).val hp ef))]) m=fun e hp ef=>ZF G K L hp0 k1 m (e 0).rd (e 4).rd (e 6).rd (e 6).val (e 7).rd (e 32).rd (e 33).rd hp ef:=by
  intro m
  induction m with
  | zero=>rfl
  | succ m ih =>
    show ZX G 92 hp0.length K ZE L Qc (Vs _ m) (Ql ZE ZW hp0) [(1,(fun e hp ef=>k1 (e 0).rd (e 4).rd (e 6).rd (e 6).val hp ef))]=_
    rw [ih]
    kernel_rfl
theorem VW (G:GT)(K:KT)(L:Nat)(hp0:HP)(k1:AV→AV→AV→AV→HP→Eff→KR)(zn:VJ):ZX G 92 hp0.length K ZE L XK zn (Ql ZE ZW hp0) [(1,(fun e hp ef=>k1 (e 0).rd (e 4).rd (e 6).rd (e 6).val hp ef))]=fun e hp ef=>ZF G K L hp0 k1 L (e 0).rd (e 4).rd (e 6).rd (e 6).val (e 7).rd (e 32).rd (e 33).rd hp ef:=VX G K L hp0 k1  L
def YE (G:GT)(K:KT)(L:Nat)(x0:AV)(hp0:HP):KR :=
  Zj (fill [(.own 1 []),(.int .i64 0)] [(0,1,AV.nm (AV.ro x0))]) fun v0 =>
  Zj (Py 2 (.agg v0)) fun v2 =>
  Gj (hp0 ++ [.cells v2 YI]) fun h1 =>
  YG (K Zv [(.ptr (hp0).length 0)] h1) fun v3 h4 f5 =>
  Zj (WF (.ptr (hp0).length 0)) fun v6 =>
  Zj (Ym 1 v6) fun v7 =>
  Zj (Zu h4 v7) fun v8 =>
  Zj (Zd .neq .prim v8 (.int .i64 0)) fun v9 =>
  ifK v9
  (Zj (WF (.ptr (hp0).length 0)) fun v10 =>
  Zj (Ym 1 v10) fun v11 =>
  Zj (Zu h4 v11) fun v12 =>
  some (YV false hp0 (.tup [(AV.nm (.own 6 [])),(AV.nm v12)]) h4 (Zk hp0.length none f5)))
  (Zj (Zd .lss .prim (AV.ro v3) (.int .i64 0)) fun v13 =>
  ifK v13
  (some (YV false hp0 (.tup [(AV.nm (.own 6 [])),(AV.nm (.int .i64 8))]) h4 (Zk hp0.length none f5)))
  (Zj (Zd .gtr .prim (AV.ro v3) (.int .i64 50000)) fun v14 =>
  ifK v14
  (some (YV false hp0 (.tup [(AV.nm (.own 6 [])),(AV.nm (.int .i64 6))]) h4 (Zk hp0.length none f5)))
  (ZF G K L hp0 (Y2 G K L hp0) L (AV.ro x0) (.ptr (hp0).length 0) (.lst 6 []) (.own 6 []) (.int .i64 0) (AV.ro v3) (.int .i64 0) h4 (Zk hp0.length none f5))))
theorem Um (G:GT)(K:KT)(L:Nat)(x0:AV)(hp0:HP):fnK G K ZE L ZW [x0] hp0=YE G K L x0 hp0:=by
  show ZX G 92 hp0.length K ZE L Xv (Ql ZE ZW hp0) (Ql ZE ZW hp0) [] (Df [x0]) hp0 none=_
  simp only [Xv,Qv,Wi,Wj,WM]
  rw [VV G K L hp0  ,VW G K L hp0 (Y2 G K L hp0)  _]
  kernel_rfl
theorem Kt {C:Cfg}(h:C.T WB=some ZW){n:Nat}{x0:AV}{hp:HP}{r:AV×HP×Eff}(hr:YE C.G (Zb C n) C.L x0 hp=some r):Zb C (n + 1) WB [x0] hp=some r:=Wx h (Nat.le_of_ble_eq_true rfl) ((Um ..).trans hr)
def Y1 (G:GT)(K:KT)(L:Nat)(hp0:HP)(x3:AV)(x4:AV)(x5:AV)(hp:HP)(ef:Eff):KR :=
  Zj (Yo hp (.int .u8) x4) fun v4 =>
  Zj (Yn (.arr 10 1) x3 x5) fun v5 =>
  X8 (Oa hp0.length v5 v4 hp ef) fun h6 f7 =>
  Zj (Zd .add .prim x5 (.int .i64 1)) fun v8 =>
  Zj (Zd .add .prim x5 (.int .i64 1)) fun v9 =>
  Zj (Ws (.arr 10 1) x3 v8 v9) fun v10 =>
  some (YV false hp0 v10 h6 f7)
theorem VR (G:GT)(K:KT)(L:Nat)(hp0:HP)   : ZX G 28 hp0.length K ZC L XH (Ql ZC ZV hp0) (Ql ZC ZV hp0) []=fun e hp ef=>Y1 G K L hp0  (e 3).rd (e 4).rd (e 5).rd hp ef:=by
  kernel_rfl
def ZT (G:GT)(K:KT)(L:Nat)(hp0:HP)(k0:AV→AV→AV→HP→Eff→KR):Nat→AV→AV→AV→HP→Eff→KR
  | 0,_,_,_,_,_=>none
  | m + 1,x3,x4,x5,hp,ef =>
    Zj (Zd .geq .prim x4 (.int .u64 128)) fun v11 =>
    ifK v11
    (Zj (Yo hp (.int .u8) x4) fun v12 =>
    Zj (Zd .or .prim v12 (.int .u8 128)) fun v13 =>
    Zj (Yn (.arr 10 1) x3 x5) fun v14 =>
    X8 (Oa hp0.length v14 v13 hp ef) fun h15 f16 =>
    Zj (Zd .shr .prim x4 (.int .u64 7)) fun v17 =>
    Zj (Zd .add .prim x5 (.int .i64 1)) fun v18 =>
    ZT G K L hp0 k0 m x3 v17 v18 h15 f16)
    (k0 x3 x4 x5 hp ef)
theorem VT (G:GT)(K:KT)(L:Nat)(hp0:HP)(k0:AV→AV→AV→HP→Eff→KR)  : ∀ m,Vs (fun n'=>ZX G 28 hp0.length K ZC L Qb n' (Ql ZC ZV hp0) [(0,(fun e hp ef=>k0 (e 3).rd (e 4).rd (e 5).rd hp ef))]) m=fun e hp ef=>ZT G K L hp0 k0 m (e 3).rd (e 4).rd (e 5).rd hp ef:=by
  intro m
  induction m with
  | zero=>rfl
  | succ m ih =>
    show ZX G 28 hp0.length K ZC L Qb (Vs _ m) (Ql ZC ZV hp0) [(0,(fun e hp ef=>k0 (e 3).rd (e 4).rd (e 5).rd hp ef))]=_
    rw [ih]
    kernel_rfl
theorem VS (G:GT)(K:KT)(L:Nat)(hp0:HP)(k0:AV→AV→AV→HP→Eff→KR)(zn:VJ):ZX G 28 hp0.length K ZC L XI zn (Ql ZC ZV hp0) [(0,(fun e hp ef=>k0 (e 3).rd (e 4).rd (e 5).rd hp ef))]=fun e hp ef=>ZT G K L hp0 k0 L (e 3).rd (e 4).rd (e 5).rd hp ef:=VT G K L hp0 k0  L
def Xx (G:GT)(K:KT)(L:Nat)(x0:AV)(hp0:HP):KR :=
  Gj (hp0 ++ [.cells [(.int .u8 0),(.int .u8 0),(.int .u8 0),(.int .u8 0),(.int .u8 0),(.int .u8 0),(.int .u8 0),(.int .u8 0),(.int .u8 0),(.int .u8 0)] Rn]) fun h0 =>
  YG (K QL [(AV.ro x0)] h0) fun v1 h2 f3 =>
  ZT G K L hp0 (Y1 G K L hp0) L (.ptr (hp0).length 0) (AV.ro v1) (.int .i64 0) h2 (Zk hp0.length none f3)
theorem Uk (G:GT)(K:KT)(L:Nat)(x0:AV)(hp0:HP):fnK G K ZC L ZV [x0] hp0=Xx G K L x0 hp0:=by
  show ZX G 28 hp0.length K ZC L Xr (Ql ZC ZV hp0) (Ql ZC ZV hp0) [] (Df [x0]) hp0 none=_
  simp only [Xr,Qv,Wi,Wj,WM]
  rw [VR G K L hp0  ,VS G K L hp0 (Y1 G K L hp0)  _]
  kernel_rfl
theorem UD {C:Cfg}(h:C.T Qn=some ZV){n:Nat}{x0:AV}{hp:HP}{r:AV×HP×Eff}(hr:Xx C.G (Zb C n) C.L x0 hp=some r):Zb C (n + 1) Qn [x0] hp=some r:=Wx h (Nat.le_of_ble_eq_true rfl) ((Uk ..).trans hr)
def Ve (G:GT)(K:KT)(L:Nat)(x0 x1:AV)(hp0:HP):KR :=
  Zj (Y3 hp0 .slice (AV.ro x0)) fun v0 =>
  Zj (Y3 hp0 .slice (AV.ro x1)) fun v1 =>
  Zj (Zd .add .prim v0 v1) fun v2 =>
  X8 (SI QN [(.int .u8 0)] v2 hp0) fun v3 h4 =>
  YG (copyV hp0.length 1 v3 (AV.ro x0) h4 none) fun v5 h6 f7 =>
  Zj (WZ (.slice 1) v3 (some v5) none) fun v8 =>
  YG (copyV hp0.length 1 v8 (AV.ro x1) h6 f7) fun v9 h10 f11 =>
  Zj (Y3 h10 .slice v3) fun v12 =>
  Zj (Y3 h10 .slice v3) fun v13 =>
  Zj (Ws (.slice 1) v3 v12 v13) fun v14 =>
  some (YV false hp0 v14 h10 f11)
theorem UJ (G:GT)(K:KT)(L:Nat)(x0 x1:AV)(hp0:HP):fnK G K IU L XX [x0,x1] hp0=Ve G K L x0 x1 hp0:=by
  kernel_rfl
theorem KO {C:Cfg}(h:C.T QK=some XX){n:Nat}{x0 x1:AV}{hp:HP}{r:AV×HP×Eff}(hr:Ve C.G (Zb C n) C.L x0 x1 hp=some r):Zb C (n + 1) QK [x0,x1] hp=some r:=Wx h (Nat.le_of_ble_eq_true rfl) ((UJ ..).trans hr)
def Z8 (G:GT)(K:KT)(L:Nat)(hp0:HP)(hp:HP)(ef:Eff):KR :=
  some (YV false hp0 (.int .i64 (-1)) hp ef)
theorem WU (G:GT)(K:KT)(L:Nat)(hp0:HP)   : ZX G 19 hp0.length K Zi L YK (Ql Zi Zn hp0) (Ql Zi Zn hp0) []=fun e hp ef=>Z8 G K L hp0   hp ef:=by
  kernel_rfl
def Zr (G:GT)(K:KT)(L:Nat)(hp0:HP)(k0:HP→Eff→KR):Nat→AV→AV→AV→AV→HP→Eff→KR
  | 0,_,_,_,_,_,_=>none
  | m + 1,x0,x1,x7,x8,hp,ef =>
    Zj (Zd .lss .prim x8 x7) fun v1 =>
    ifK v1
    (Zj (Yn (.slice 1) x0 x8) fun v2 =>
    Zj (Zu hp v2) fun v3 =>
    Zj (Zd .eql .prim x1 v3) fun v4 =>
    ifK v4
    (some (YV false hp0 x8 hp ef))
    (Zj (Zd .add .prim x8 (.int .i64 1)) fun v5 =>
    Zr G K L hp0 k0 m x0 x1 x7 v5 hp ef))
    (k0  hp ef)
theorem WW (G:GT)(K:KT)(L:Nat)(hp0:HP)(k0:HP→Eff→KR)  : ∀ m,Vs (fun n'=>ZX G 19 hp0.length K Zi L Ye n' (Ql Zi Zn hp0) [(0,(fun e hp ef=>k0  hp ef))]) m=fun e hp ef=>Zr G K L hp0 k0 m (e 0).rd (e 1).rd (e 7).rd (e 8).rd hp ef:=by
  intro m
  induction m with
  | zero=>rfl
  | succ m ih =>
    show ZX G 19 hp0.length K Zi L Ye (Vs _ m) (Ql Zi Zn hp0) [(0,(fun e hp ef=>k0  hp ef))]=_
    rw [ih]
    kernel_rfl
theorem WV (G:GT)(K:KT)(L:Nat)(hp0:HP)(k0:HP→Eff→KR)(zn:VJ):ZX G 19 hp0.length K Zi L YL zn (Ql Zi Zn hp0) [(0,(fun e hp ef=>k0  hp ef))]=fun e hp ef=>Zr G K L hp0 k0 L (e 0).rd (e 1).rd (e 7).rd (e 8).rd hp ef:=WW G K L hp0 k0  L
def Yx (G:GT)(K:KT)(L:Nat)(x0 x1:AV)(hp0:HP):KR :=
  Zj (Y3 hp0 .slice (AV.ro x0)) fun v0 =>
  Zr G K L hp0 (Z8 G K L hp0) L (AV.ro x0) (AV.ro x1) v0 (.int .i64 0) hp0 none
theorem Qy (G:GT)(K:KT)(L:Nat)(x0 x1:AV)(hp0:HP):fnK G K Zi L Zn [x0,x1] hp0=Yx G K L x0 x1 hp0:=by
  show ZX G 19 hp0.length K Zi L Yw (Ql Zi Zn hp0) (Ql Zi Zn hp0) [] (Df [x0,x1]) hp0 none=_
  simp only [Yw,Qv,Wi,Wj,WM]
  rw [WU G K L hp0  ,WV G K L hp0 (Z8 G K L hp0)  _]
  kernel_rfl
theorem QA {C:Cfg}(h:C.T ZR=some Zn){n:Nat}{x0 x1:AV}{hp:HP}{r:AV×HP×Eff}(hr:Yx C.G (Zb C n) C.L x0 x1 hp=some r):Zb C (n + 1) ZR [x0,x1] hp=some r:=Wx h (Nat.le_of_ble_eq_true rfl) ((Qy ..).trans hr)
def GK (G:GT)(K:KT)(L:Nat)(hp0:HP):KR :=
  X8 (PL Rq 1 [(.str []),(.str [98,101,103,105,110]),(.str [101,110,100]),(.str [104,111,108,100]),(.str [115,101,105,122,101]),(.str [119,97,105,116,115]),(.str [114,101,108,101,97,115,101]),(.str [112,114,101,101,109,112,116]),(.str [112,117,116]),(.str [103,101,116]),(.str [114,105,100,101]),(.str [119,97,105,116]),(.str [115,105,103,110,97,108]),(.str [115,101,110,100]),(.str [111,98,115,101,114,118,101]),(.str [108,101,118,101,108]),(.str [99,111,117,110,116]),(.str [115,104,105,102,116]),(.str [102,97,117,108,116])] hp0) fun v0 h1 =>
  some (YV false hp0 v0 h1 none)
theorem IP (G:GT)(K:KT)(L:Nat)(hp0:HP):fnK G K BJ L JI [] hp0=GK G K L  hp0:=by
  kernel_rfl
theorem TY {C:Cfg}(h:C.T Vz=some JI){n:Nat}{hp:HP}{r:AV×HP×Eff}(hr:GK C.G (Zb C n) C.L  hp=some r):Zb C (n + 1) Vz [] hp=some r:=Wx h (Nat.le_of_ble_eq_true rfl) ((IP ..).trans hr)
def X3 (G:GT)(K:KT)(L:Nat)(x0 x1:AV)(hp0:HP):KR :=
  Zj (Zd .geq .prim (AV.ro x0) (.int .i64 0)) fun v0 =>
  Xi v0 true
  (Zj (Zd .leq .prim (AV.ro x0) (AV.ro x1)) fun v1 =>
  some (v1,hp0,none))
  (some (.bool false)) hp0 none fun v2 h3 f4 =>
  some (YV false hp0 v2 h3 f4)
theorem Ur (G:GT)(K:KT)(L:Nat)(x0 x1:AV)(hp0:HP):fnK G K Ia L Xo [x0,x1] hp0=X3 G K L x0 x1 hp0:=by
  kernel_rfl
theorem Kw {C:Cfg}(h:C.T YD=some Xo){n:Nat}{x0 x1:AV}{hp:HP}{r:AV×HP×Eff}(hr:X3 C.G (Zb C n) C.L x0 x1 hp=some r):Zb C (n + 1) YD [x0,x1] hp=some r:=Wx h (Nat.le_of_ble_eq_true rfl) ((Ur ..).trans hr)
def Ti (G:GT)(K:KT)(L:Nat)(x0:AV)(hp0:HP):KR :=
  Zj (Zd .geq .prim (AV.ro x0) (.int .i64 (-1000000000000))) fun v0 =>
  Xi v0 true
  (Zj (Zd .leq .prim (AV.ro x0) (.int .i64 1000000000000)) fun v1 =>
  some (v1,hp0,none))
  (some (.bool false)) hp0 none fun v2 h3 f4 =>
  some (YV false hp0 v2 h3 f4)
theorem Ba (G:GT)(K:KT)(L:Nat)(x0:AV)(hp0:HP):fnK G K FO L OU [x0] hp0=Ti G K L x0 hp0:=by
  kernel_rfl
theorem PN {C:Cfg}(h:C.T Gf=some OU){n:Nat}{x0:AV}{hp:HP}{r:AV×HP×Eff}(hr:Ti C.G (Zb C n) C.L x0 hp=some r):Zb C (n + 1) Gf [x0] hp=some r:=Wx h (Nat.le_of_ble_eq_true rfl) ((Ba ..).trans hr)
def VU (G:GT)(K:KT)(L:Nat)(x0 x1:AV)(hp0:HP):KR :=
  Zj (Zd .geq .prim (AV.ro x0) (.int .i64 0)) fun v0 =>
  Xi v0 true
  (Zj (Zd .leq .prim (AV.ro x0) (AV.ro x1)) fun v1 =>
  some (v1,hp0,none))
  (some (.bool false)) hp0 none fun v2 h3 f4 =>
  some (YV false hp0 v2 h3 f4)
theorem GL (G:GT)(K:KT)(L:Nat)(x0 x1:AV)(hp0:HP):fnK G K LU L VN [x0,x1] hp0=VU G K L x0 x1 hp0:=by
  kernel_rfl
theorem IY {C:Cfg}(h:C.T WA=some VN){n:Nat}{x0 x1:AV}{hp:HP}{r:AV×HP×Eff}(hr:VU C.G (Zb C n) C.L x0 x1 hp=some r):Zb C (n + 1) WA [x0,x1] hp=some r:=Wx h (Nat.le_of_ble_eq_true rfl) ((GL ..).trans hr)
def Tj (G:GT)(K:KT)(L:Nat)(x0:AV)(hp0:HP):KR :=
  Zj (Zd .geq .prim (AV.ro x0) (.int .i64 (-1000000000000))) fun v0 =>
  Xi v0 true
  (Zj (Zd .leq .prim (AV.ro x0) (.int .i64 1000000000000)) fun v1 =>
  some (v1,hp0,none))
  (some (.bool false)) hp0 none fun v2 h3 f4 =>
  some (YV false hp0 v2 h3 f4)
theorem Bd (G:GT)(K:KT)(L:Nat)(x0:AV)(hp0:HP):fnK G K FP L OV [x0] hp0=Tj G K L x0 hp0:=by
  kernel_rfl
theorem PX {C:Cfg}(h:C.T Gg=some OV){n:Nat}{x0:AV}{hp:HP}{r:AV×HP×Eff}(hr:Tj C.G (Zb C n) C.L x0 hp=some r):Zb C (n + 1) Gg [x0] hp=some r:=Wx h (Nat.le_of_ble_eq_true rfl) ((Bd ..).trans hr)
def X0 (G:GT)(K:KT)(L:Nat)(x0 x1:AV)(hp0:HP):KR :=
  Zj (Py 6 (AV.ro x0)) fun v1 =>
  Gj (hp0 ++ [.cells v1 Ze]) fun h0 =>
  Zj (Ym 0 (.ptr (hp0).length 0)) fun v2 =>
  Zj (Zu h0 v2) fun v3 =>
  Zj (Zd .sub .prim v3 (AV.ro x1)) fun v4 =>
  Zj (Ym 1 (.ptr (hp0).length 0)) fun v5 =>
  Zj (Zu h0 v5) fun v6 =>
  Zj (Ym 2 (.ptr (hp0).length 0)) fun v7 =>
  Zj (Zu h0 v7) fun v8 =>
  Zj (Ym 3 (.ptr (hp0).length 0)) fun v9 =>
  Zj (Zu h0 v9) fun v10 =>
  Zj (Ym 4 (.ptr (hp0).length 0)) fun v11 =>
  Zj (Zu h0 v11) fun v12 =>
  Zj (Ym 5 (.ptr (hp0).length 0)) fun v13 =>
  Zj (Zu h0 v13) fun v14 =>
  X8 (PL Ro 1 [v4,v6,v8,v10,v12,v14] h0) fun v15 h16 =>
  some (YV false hp0 v15 h16 none)
theorem Uo (G:GT)(K:KT)(L:Nat)(x0 x1:AV)(hp0:HP):fnK G K HY L Xn [x0,x1] hp0=X0 G K L x0 x1 hp0:=by
  kernel_rfl
theorem Kv {C:Cfg}(h:C.T Qq=some Xn){n:Nat}{x0 x1:AV}{hp:HP}{r:AV×HP×Eff}(hr:X0 C.G (Zb C n) C.L x0 x1 hp=some r):Zb C (n + 1) Qq [x0,x1] hp=some r:=Wx h (Nat.le_of_ble_eq_true rfl) ((Uo ..).trans hr)
def Y7 (G:GT)(K:KT)(L:Nat)(x0:AV)(hp0:HP):KR :=
  Zj (WF (AV.ro x0)) fun v0 =>
  Zj (Ym 1 v0) fun v1 =>
  Zj (Zu hp0 v1) fun v2 =>
  Zj (Zd .neq .prim v2 (.int .i64 0)) fun v3 =>
  ifK v3
  (some (YV false hp0 (.int .i64 0) hp0 none))
  (Zj (WF (AV.ro x0)) fun v4 =>
  Zj (Ym 0 v4) fun v5 =>
  Zj (Zu hp0 v5) fun v6 =>
  YG (K Vx [v6] hp0) fun v7 h8 f9 =>
  Zj (Z9 (AV.ro v7) 0) fun v10 =>
  Zj (Z9 (AV.ro v7) 1) fun v11 =>
  Zj (Z9 (AV.ro v7) 2) fun v12 =>
  Zj (WF (AV.ro x0)) fun v13 =>
  Zj (Ym 0 v13) fun v14 =>
  Zj (Zu h8 v14) fun v15 =>
  Zj (WZ (.slice 1) v15 (some v11) none) fun v16 =>
  Zj (WF (AV.ro x0)) fun v17 =>
  Zj (Ym 0 v17) fun v18 =>
  X8 (Oa hp0.length v18 v16 h8 (Zk hp0.length none f9)) fun h19 f20 =>
  Zj (WF (AV.ro x0)) fun v21 =>
  Zj (Ym 1 v21) fun v22 =>
  X8 (Oa hp0.length v22 v12 h19 f20) fun h23 f24 =>
  some (YV false hp0 v10 h23 f24))
theorem XD (G:GT)(K:KT)(L:Nat)(x0:AV)(hp0:HP):fnK G K VC L We [x0] hp0=Y7 G K L x0 hp0:=by
  kernel_rfl
theorem XV {C:Cfg}(h:C.T Zv=some We){n:Nat}{x0:AV}{hp:HP}{r:AV×HP×Eff}(hr:Y7 C.G (Zb C n) C.L x0 hp=some r):Zb C (n + 1) Zv [x0] hp=some r:=Wx h (Nat.le_of_ble_eq_true rfl) ((XD ..).trans hr)
def V8 (G:GT)(K:KT)(L:Nat)(x0 x1:AV)(hp0:HP):KR :=
  Zj (Yo hp0 .ofBytes (AV.ro x0)) fun v0 =>
  Zj (Yo hp0 .ofBytes (AV.ro x1)) fun v1 =>
  Zj (Zd .eql .prim v0 v1) fun v2 =>
  some (YV false hp0 v2 hp0 none)
theorem KQ (G:GT)(K:KT)(L:Nat)(x0 x1:AV)(hp0:HP):fnK G K TQ L V3 [x0,x1] hp0=V8 G K L x0 x1 hp0:=by
  kernel_rfl
theorem Gz {C:Cfg}(h:C.T QY=some V3){n:Nat}{x0 x1:AV}{hp:HP}{r:AV×HP×Eff}(hr:V8 C.G (Zb C n) C.L x0 x1 hp=some r):Zb C (n + 1) QY [x0,x1] hp=some r:=Wx h (Nat.le_of_ble_eq_true rfl) ((KQ ..).trans hr)
def Vf (G:GT)(K:KT)(L:Nat)(x0:AV)(hp0:HP):KR :=
  Zj (Yo hp0 (.int .u64) (AV.ro x0)) fun v0 =>
  Zj (Zd .shl .prim v0 (.int .u64 1)) fun v1 =>
  Zj (Zd .shr .prim (AV.ro x0) (.int .u64 63)) fun v2 =>
  Zj (Yo hp0 (.int .u64) v2) fun v3 =>
  Zj (Zd .xor .prim v1 v3) fun v4 =>
  some (YV false hp0 v4 hp0 none)
theorem UK (G:GT)(K:KT)(L:Nat)(x0:AV)(hp0:HP):fnK G K IV L XY [x0] hp0=Vf G K L x0 hp0:=by
  kernel_rfl
theorem KP {C:Cfg}(h:C.T QL=some XY){n:Nat}{x0:AV}{hp:HP}{r:AV×HP×Eff}(hr:Vf C.G (Zb C n) C.L x0 hp=some r):Zb C (n + 1) QL [x0] hp=some r:=Wx h (Nat.le_of_ble_eq_true rfl) ((UK ..).trans hr)
def WR (G:GT)(K:KT)(L:Nat)(hp0:HP)(hp:HP)(ef:Eff):KR :=
  some (YV false hp0 (.tup [(AV.nm (.int .i64 0)),(AV.nm (.int .i64 0)),(AV.nm (.int .i64 8))]) hp ef)
theorem UF (G:GT)(K:KT)(L:Nat)(hp0:HP)   : ZX G 47 hp0.length K Yq L Jz (Ql Yq YQ hp0) (Ql Yq YQ hp0) []=fun e hp ef=>WR G K L hp0   hp ef:=by
  kernel_rfl
def ZY (G:GT)(K:KT)(L:Nat)(hp0:HP)(k0:HP→Eff→KR):Nat→AV→AV→AV→HP→Eff→KR
  | 0,_,_,_,_,_=>none
  | m + 1,x0,x5,x8,hp,ef =>
    Zj (Zd .lss .prim x8 (.int .i64 10)) fun v0 =>
    ifK v0
    (Zj (Y3 hp .slice x0) fun v1 =>
    Zj (Zd .geq .prim x8 v1) fun v2 =>
    ifK v2
    (some (YV false hp0 (.tup [(AV.nm (.int .i64 0)),(AV.nm (.int .i64 0)),(AV.nm (.int .i64 7))]) hp ef))
    (Zj (Yn (.slice 1) x0 x8) fun v3 =>
    Zj (Zu hp v3) fun v4 =>
    Zj (Zd .eql .prim x8 (.int .i64 9)) fun v5 =>
    Xi v5 true
    (Zj (Zd .gtr .prim v4 (.int .u8 1)) fun v6 =>
    some (v6,hp,ef))
    (some (.bool false)) hp ef fun v7 h8 f9 =>
    ifK (AV.ro v7)
    (some (YV false hp0 (.tup [(AV.nm (.int .i64 0)),(AV.nm (.int .i64 0)),(AV.nm (.int .i64 8))]) h8 f9))
    (Zj (Zd .andNot .prim v4 (.int .u8 128)) fun v10 =>
    Zj (Yo h8 (.int .u64) v10) fun v11 =>
    Zj (Zd .mul .prim (.int .i64 7) x8) fun v12 =>
    Zj (Zd .shl .prim v11 v12) fun v13 =>
    Zj (Zd .or .prim x5 v13) fun v14 =>
    Zj (Zd .and .prim v4 (.int .u8 128)) fun v15 =>
    Zj (Zd .neq .prim v15 (.int .u8 0)) fun v16 =>
    ifK v16
    (Zj (Zd .add .prim x8 (.int .i64 1)) fun v17 =>
    ZY G K L hp0 k0 m x0 v14 v17 h8 f9)
    (Zj (Zd .eql .prim v4 (.int .u8 0)) fun v18 =>
    Xi v18 true
    (Zj (Zd .gtr .prim x8 (.int .i64 0)) fun v19 =>
    some (v19,h8,f9))
    (some (.bool false)) h8 f9 fun v20 h21 f22 =>
    ifK (AV.ro v20)
    (some (YV false hp0 (.tup [(AV.nm (.int .i64 0)),(AV.nm (.int .i64 0)),(AV.nm (.int .i64 8))]) h21 f22))
    (YG (K Qo [v14] h21) fun v23 h24 f25 =>
    Zj (Zd .add .prim x8 (.int .i64 1)) fun v26 =>
    some (YV false hp0 (.tup [(AV.nm v23),(AV.nm v26),(AV.nm (.int .i64 0))]) h24 (Zk hp0.length f22 f25)))))))
    (k0  hp ef)
theorem UH (G:GT)(K:KT)(L:Nat)(hp0:HP)(k0:HP→Eff→KR)  : ∀ m,Vs (fun n'=>ZX G 47 hp0.length K Yq L Xq n' (Ql Yq YQ hp0) [(0,(fun e hp ef=>k0  hp ef))]) m=fun e hp ef=>ZY G K L hp0 k0 m (e 0).rd (e 5).rd (e 8).rd hp ef:=by
  intro m
  induction m with
  | zero=>rfl
  | succ m ih =>
    show ZX G 47 hp0.length K Yq L Xq (Vs _ m) (Ql Yq YQ hp0) [(0,(fun e hp ef=>k0  hp ef))]=_
    rw [ih]
    kernel_rfl
theorem UG (G:GT)(K:KT)(L:Nat)(hp0:HP)(k0:HP→Eff→KR)(zn:VJ):ZX G 47 hp0.length K Yq L J3 zn (Ql Yq YQ hp0) [(0,(fun e hp ef=>k0  hp ef))]=fun e hp ef=>ZY G K L hp0 k0 L (e 0).rd (e 5).rd (e 8).rd hp ef:=UH G K L hp0 k0  L
def GH (G:GT)(K:KT)(L:Nat)(x0:AV)(hp0:HP):KR :=
  ZY G K L hp0 (WR G K L hp0) L (AV.ro x0) (.int .u64 0) (.int .i64 0) hp0 none
theorem IK (G:GT)(K:KT)(L:Nat)(x0:AV)(hp0:HP):fnK G K Yq L YQ [x0] hp0=GH G K L x0 hp0:=by
  show ZX G 47 hp0.length K Yq L JL (Ql Yq YQ hp0) (Ql Yq YQ hp0) [] (Df [x0]) hp0 none=_
  simp only [JL,Qv,Wi,Wj,WM]
  rw [UF G K L hp0  ,UG G K L hp0 (WR G K L hp0)  _]
  kernel_rfl
theorem Tf {C:Cfg}(h:C.T Vx=some YQ){n:Nat}{x0:AV}{hp:HP}{r:AV×HP×Eff}(hr:GH C.G (Zb C n) C.L x0 hp=some r):Zb C (n + 1) Vx [x0] hp=some r:=Wx h (Nat.le_of_ble_eq_true rfl) ((IK ..).trans hr)
def Xy (G:GT)(K:KT)(L:Nat)(x0:AV)(hp0:HP):KR :=
  Zj (Zd .shr .prim (AV.ro x0) (.int .u64 1)) fun v0 =>
  Zj (Yo hp0 (.int .i64) v0) fun v1 =>
  Zj (Zd .and .prim (AV.ro x0) (.int .u64 1)) fun v2 =>
  Zj (Yo hp0 (.int .i64) v2) fun v3 =>
  Zj (XE .neg v3) fun v4 =>
  Zj (Zd .xor .prim v1 v4) fun v5 =>
  some (YV false hp0 v5 hp0 none)
theorem Ul (G:GT)(K:KT)(L:Nat)(x0:AV)(hp0:HP):fnK G K H9 L Xm [x0] hp0=Xy G K L x0 hp0:=by
  kernel_rfl
theorem UE {C:Cfg}(h:C.T Qo=some Xm){n:Nat}{x0:AV}{hp:HP}{r:AV×HP×Eff}(hr:Xy C.G (Zb C n) C.L x0 hp=some r):Zb C (n + 1) Qo [x0] hp=some r:=Wx h (Nat.le_of_ble_eq_true rfl) ((Ul ..).trans hr)
end Go.Proofs.YtdchnngpjjcchaaDoor
end
