import Derived.Test.YtdchnngpjjcchaaDoorRows
import Derived.ProofKit
import Derived.Test.YtdchnngpjjcchaaDoorJ2
set_option linter.all false
section
namespace Go.Proofs.YtdchnngpjjcchaaDoor
open Go Go.Proofs.YtdchnngpjjcchaaDoor.Abs
set_option maxRecDepth 100000
set_option maxHeartbeats 0
abbrev HP:=List Zi
abbrev GT:=Nat→Option (List AV)
abbrev KT:=FuncId→List AV→HP→KR
def takes:FuncId→List Nat:=fun _=>[]
abbrev Qe:FuncId:=4
abbrev Wq:FuncId:=5
abbrev Wp:FuncId:=6
abbrev Qg:FuncId:=7
abbrev Qh:FuncId:=8
abbrev ZL:FuncId:=9
abbrev YX:FuncId:=10
abbrev YC:FuncId:=12
abbrev Jn:FuncId:=13
abbrev Ws:FuncId:=14
abbrev Zg:FuncId:=16
abbrev X3:FuncId:=17
abbrev ZI:FuncId:=18
abbrev Xp:FuncId:=19
abbrev Vx:FuncId:=20
abbrev XY:FuncId:=21
abbrev Kz:FuncId:=22
abbrev Yj:FuncId:=23
abbrev Nq:FuncId:=25
abbrev We:FuncId:=27
abbrev Oc:FuncId:=28
abbrev Qn:FuncId:=29
abbrev Oe:FuncId:=30
abbrev VF:FuncId:=31
abbrev Xo:FuncId:=32
abbrev ER:FuncId:=33
abbrev QY:FuncId:=34
abbrev VT:FuncId:=35
abbrev VE:FuncId:=36
abbrev Qm:FuncId:=37
abbrev Zy:FuncId:=38
abbrev XL:FuncId:=39
abbrev JH:FuncId:=40
abbrev Xx:FuncId:=48
abbrev QW:FuncId:=49
abbrev Vw:FuncId:=50
abbrev Jm:FuncId:=51
abbrev XM:FuncId:=52
abbrev Xy:FuncId:=61
abbrev QX:FuncId:=62
abbrev RP:TypeId:=3
abbrev WE:TypeId:=5
abbrev ZaI:TypeId:=9
abbrev Zl:TypeId:=24
abbrev ZaH:TypeId:=34
abbrev WZ:TypeId:=47
abbrev Wn:TypeId:=64
abbrev Nc:TypeId:=89
def Gg:ZA :=
  .seq (.region false [⟨(some 2),.box 24 6 (.tmp 0),none⟩,
     ⟨(some 3),.box 24 6 (.tmp 1),none⟩,
     ⟨(some 4),.mv (.const (.bool false)),none⟩])
  (.seq (.region false [⟨(some 8),.lda 6 (.tmp 2),none⟩,
      ⟨(some 9),.call (.const (.fn 14 [] [])) [(.inr (.tmp 8))],none⟩,
      ⟨(some 5),.take 9,none⟩])
   (.seq (.region false [⟨(some 11),.mv (.tmp 5),none⟩,
       ⟨(some 12),.call (.const (.fn 10 [] [])) [(.inr (.tmp 11))],none⟩,
       ⟨(some 10),.mv (.tmp 12),none⟩,
       ⟨(some 13),.extract (.tmp 10) 0,none⟩,
       ⟨(some 14),.extract (.tmp 10) 1,none⟩,
       ⟨(some 6),.mk 24 [(.int .i64 0),(.int .i64 0),(.int .i64 0),(.int .i64 0),(.int .i64 0),(.int .i64 0)],none⟩,
       ⟨none,.st 6 (.tmp 6) (.tmp 13),none⟩,
       ⟨(some 7),.take 14,none⟩])
    (.seq (.seq (.region false [⟨(some 15),.lda 6 (.tmp 2),none⟩,
         ⟨(some 16),.call (.const (.fn 12 [] [])) [(.inr (.tmp 15))],none⟩,
         ⟨(some 17),.bin .neq .prim (.tmp 16) (.const (.int .i64 0)),none⟩])
      (.cond (.tmp 17) (.seq (.region false [⟨(some 18),.mv (.tmp 5),none⟩,
           ⟨(some 19),.bin .eql .prim (.tmp 18) (.const (.str [])),none⟩,
           ⟨(some 20),.mv (.tmp 19),none⟩,
           ⟨(some 21),.mv (.tmp 7),(some (20,true))⟩,
           ⟨(some 22),.bin .eql .prim (.tmp 21) (.const (.int .i64 8)),(some (20,true))⟩,
           ⟨(some 23),.pick (.tmp 20) (.tmp 22) (.const (.bool false)),none⟩,
           ⟨(some 24),.mv (.tmp 23),none⟩,
           ⟨(some 25),.call (.const (.fn 9 [] [])) [],(some (24,true))⟩,
           ⟨(some 26),.pick (.tmp 24) (.tmp 25) (.const (.bool false)),none⟩,
           ⟨(some 4),.take 26,none⟩])
        (.ret))
       (.skip)))
     (.seq (.seq (.region false [⟨(some 27),.lda 6 (.tmp 6),none⟩,
          ⟨(some 28),.lda 6 (.tmp 2),none⟩,
          ⟨(some 29),.bin .neq (.struct [.int,.int,.int,.int,.int,.int]) (.tmp 27) (.tmp 28),none⟩,
          ⟨(some 30),.mv (.tmp 29),none⟩,
          ⟨(some 31),.mv (.tmp 7),(some (30,false))⟩,
          ⟨(some 32),.bin .neq .prim (.tmp 31) (.const (.int .i64 0)),(some (30,false))⟩,
          ⟨(some 33),.pick (.tmp 30) (.const (.bool true)) (.tmp 32),none⟩])
       (.cond (.tmp 33) (.seq (.region false [⟨(some 4),.mv (.const (.bool false)),none⟩])
         (.ret))
        (.skip)))
      (.seq (.region true [⟨(some 34),.lda 6 (.tmp 3),none⟩,
          ⟨(some 35),.call (.const (.fn 12 [] [])) [(.inr (.tmp 34))],none⟩,
          ⟨(some 36),.bin .neq .prim (.tmp 35) (.const (.int .i64 0)),none⟩,
          ⟨(some 37),.mv (.tmp 36),none⟩,
          ⟨(some 38),.lda 6 (.tmp 3),(some (37,false))⟩,
          ⟨(some 39),.call (.const (.fn 14 [] [])) [(.inr (.tmp 38))],(some (37,false))⟩,
          ⟨(some 40),.mv (.tmp 5),(some (37,false))⟩,
          ⟨(some 41),.bin .eql .prim (.tmp 39) (.tmp 40),(some (37,false))⟩,
          ⟨(some 42),.lda 6 (.tmp 3),(some (37,false))⟩,
          ⟨(some 43),.lda 6 (.tmp 2),(some (37,false))⟩,
          ⟨(some 44),.bin .eql (.struct [.int,.int,.int,.int,.int,.int]) (.tmp 42) (.tmp 43),(some (37,false))⟩,
          ⟨(some 45),.bin .eql .bool (.tmp 41) (.tmp 44),(some (37,false))⟩,
          ⟨(some 46),.pick (.tmp 37) (.const (.bool true)) (.tmp 45),none⟩,
          ⟨(some 47),.mv (.tmp 46),none⟩,
          ⟨(some 48),.call (.const (.fn 9 [] [])) [],(some (47,true))⟩,
          ⟨(some 49),.pick (.tmp 47) (.tmp 48) (.const (.bool false)),none⟩,
          ⟨(some 4),.mv (.tmp 49),none⟩])
       (.ret))))))
def QZ:AFn:=⟨50,[.tmp 4],Gg,false⟩
def Hf:List Nat:=[21,22,25,31,32,38,39,40,41,42,43,44,45,48]
def JP:ZA :=
  .seq (.region false [⟨(some 2),.mv (.const (.bool false)),none⟩])
  (.seq (.seq (.region false [⟨(some 9),.mv (.tmp 0),none⟩,
       ⟨(some 10),.len .slice (.tmp 9),none⟩,
       ⟨(some 11),.bin .gtr .prim (.tmp 10) (.const (.int .i64 60)),none⟩])
    (.cond (.tmp 11) (.seq (.region false [⟨(some 12),.call (.const (.fn 9 [] [])) [],none⟩,
         ⟨(some 2),.take 12,none⟩])
      (.ret))
     (.skip)))
   (.seq (.region false [⟨(some 14),.mv (.tmp 0),none⟩,
       ⟨(some 15),.call (.const (.fn 16 [] [])) [(.inr (.tmp 14))],none⟩,
       ⟨(some 13),.mv (.tmp 15),none⟩,
       ⟨(some 16),.extract (.tmp 13) 0,none⟩,
       ⟨(some 17),.extract (.tmp 13) 1,none⟩,
       ⟨(some 3),.take 16,none⟩,
       ⟨(some 4),.take 17,none⟩])
    (.seq (.region false [⟨(some 19),.mv (.tmp 0),none⟩,
        ⟨(some 20),.call (.const (.fn 17 [] [])) [(.inr (.tmp 19))],none⟩,
        ⟨(some 18),.mv (.tmp 20),none⟩,
        ⟨(some 21),.extract (.tmp 18) 0,none⟩,
        ⟨(some 22),.extract (.tmp 18) 1,none⟩,
        ⟨(some 5),.take 21,none⟩,
        ⟨(some 6),.take 22,none⟩])
     (.seq (.seq (.region false [⟨(some 23),.mv (.tmp 3),none⟩,
          ⟨(some 24),.conv .ofBytes (.tmp 23),none⟩,
          ⟨(some 25),.mv (.tmp 5),none⟩,
          ⟨(some 26),.conv .ofBytes (.tmp 25),none⟩,
          ⟨(some 27),.bin .neq .prim (.tmp 24) (.tmp 26),none⟩,
          ⟨(some 28),.mv (.tmp 27),none⟩,
          ⟨(some 29),.mv (.tmp 4),(some (28,false))⟩,
          ⟨(some 30),.mv (.tmp 6),(some (28,false))⟩,
          ⟨(some 31),.bin .neq .prim (.tmp 29) (.tmp 30),(some (28,false))⟩,
          ⟨(some 32),.pick (.tmp 28) (.const (.bool true)) (.tmp 31),none⟩])
       (.cond (.tmp 32) (.seq (.region false [⟨(some 2),.mv (.const (.bool false)),none⟩])
         (.ret))
        (.skip)))
      (.seq (.seq (.region false [⟨(some 33),.mv (.tmp 4),none⟩,
           ⟨(some 34),.bin .neq .prim (.tmp 33) (.const (.int .i64 0)),none⟩])
        (.cond (.tmp 34) (.seq (.region false [⟨(some 35),.mv (.tmp 3),none⟩,
             ⟨(some 36),.len .slice (.tmp 35),none⟩,
             ⟨(some 37),.bin .eql .prim (.tmp 36) (.const (.int .i64 0)),none⟩,
             ⟨(some 38),.mv (.tmp 37),none⟩,
             ⟨(some 39),.call (.const (.fn 9 [] [])) [],(some (38,true))⟩,
             ⟨(some 40),.pick (.tmp 38) (.tmp 39) (.const (.bool false)),none⟩,
             ⟨(some 2),.take 40,none⟩])
          (.ret))
         (.skip)))
       (.seq (.region false [⟨(some 42),.mv (.tmp 3),none⟩,
           ⟨(some 43),.call (.const (.fn 18 [] [])) [(.inr (.tmp 42))],none⟩,
           ⟨(some 41),.mv (.tmp 43),none⟩,
           ⟨(some 44),.extract (.tmp 41) 0,none⟩,
           ⟨(some 45),.extract (.tmp 41) 1,none⟩,
           ⟨(some 7),.take 44,none⟩,
           ⟨(some 8),.take 45,none⟩])
        (.seq (.region false [⟨(some 46),.mv (.tmp 8),none⟩,
            ⟨(some 47),.bin .eql .prim (.tmp 46) (.const (.int .i64 0)),none⟩,
            ⟨(some 48),.mv (.tmp 47),none⟩,
            ⟨(some 49),.mv (.tmp 0),(some (48,true))⟩,
            ⟨(some 50),.mv (.tmp 7),(some (48,true))⟩,
            ⟨(some 51),.call (.const (.fn 19 [] [])) [(.inr (.tmp 49)),(.inr (.tmp 50))],(some (48,true))⟩,
            ⟨(some 52),.pick (.tmp 48) (.tmp 51) (.const (.bool false)),none⟩,
            ⟨(some 53),.mv (.tmp 52),none⟩,
            ⟨(some 54),.call (.const (.fn 9 [] [])) [],(some (53,true))⟩,
            ⟨(some 55),.pick (.tmp 53) (.tmp 54) (.const (.bool false)),none⟩,
            ⟨(some 2),.take 55,none⟩])
         (.ret))))))))
def Qq:AFn:=⟨56,[.tmp 2],JP,false⟩
def U5:List Nat:=[29,30,31,39,49,50,51,54]
def JO:ZA :=
  .seq (.region false [⟨(some 2),.mv (.const (.bool false)),none⟩])
  (.seq (.seq (.region false [⟨(some 9),.mv (.tmp 0),none⟩,
       ⟨(some 10),.len .slice (.tmp 9),none⟩,
       ⟨(some 11),.bin .gtr .prim (.tmp 10) (.const (.int .i64 500)),none⟩])
    (.cond (.tmp 11) (.seq (.region false [⟨(some 12),.call (.const (.fn 9 [] [])) [],none⟩,
         ⟨(some 2),.take 12,none⟩])
      (.ret))
     (.skip)))
   (.seq (.region false [⟨(some 14),.mv (.tmp 0),none⟩,
       ⟨(some 15),.call (.const (.fn 18 [] [])) [(.inr (.tmp 14))],none⟩,
       ⟨(some 13),.mv (.tmp 15),none⟩,
       ⟨(some 16),.extract (.tmp 13) 0,none⟩,
       ⟨(some 17),.extract (.tmp 13) 1,none⟩,
       ⟨(some 3),.take 16,none⟩,
       ⟨(some 4),.take 17,none⟩])
    (.seq (.region false [⟨(some 19),.mv (.tmp 0),none⟩,
        ⟨(some 20),.call (.const (.fn 20 [] [])) [(.inr (.tmp 19))],none⟩,
        ⟨(some 18),.mv (.tmp 20),none⟩,
        ⟨(some 21),.extract (.tmp 18) 0,none⟩,
        ⟨(some 22),.extract (.tmp 18) 1,none⟩,
        ⟨(some 5),.take 21,none⟩,
        ⟨(some 6),.take 22,none⟩])
     (.seq (.seq (.region false [⟨(some 23),.mv (.tmp 4),none⟩,
          ⟨(some 24),.mv (.tmp 6),none⟩,
          ⟨(some 25),.bin .neq .prim (.tmp 23) (.tmp 24),none⟩,
          ⟨(some 26),.mv (.tmp 25),none⟩,
          ⟨(some 27),.mv (.tmp 3),(some (26,false))⟩,
          ⟨(some 28),.mv (.tmp 5),(some (26,false))⟩,
          ⟨(some 29),.call (.const (.fn 19 [] [])) [(.inr (.tmp 27)),(.inr (.tmp 28))],(some (26,false))⟩,
          ⟨(some 30),.un .not (.tmp 29),(some (26,false))⟩,
          ⟨(some 31),.pick (.tmp 26) (.const (.bool true)) (.tmp 30),none⟩])
       (.cond (.tmp 31) (.seq (.region false [⟨(some 2),.mv (.const (.bool false)),none⟩])
         (.ret))
        (.skip)))
      (.seq (.seq (.region false [⟨(some 32),.mv (.tmp 4),none⟩,
           ⟨(some 33),.bin .neq .prim (.tmp 32) (.const (.int .i64 0)),none⟩])
        (.cond (.tmp 33) (.seq (.region false [⟨(some 34),.mv (.tmp 3),none⟩,
             ⟨(some 35),.len .slice (.tmp 34),none⟩,
             ⟨(some 36),.bin .eql .prim (.tmp 35) (.const (.int .i64 0)),none⟩,
             ⟨(some 37),.mv (.tmp 36),none⟩,
             ⟨(some 38),.call (.const (.fn 9 [] [])) [],(some (37,true))⟩,
             ⟨(some 39),.pick (.tmp 37) (.tmp 38) (.const (.bool false)),none⟩,
             ⟨(some 2),.take 39,none⟩])
          (.ret))
         (.skip)))
       (.seq (.region false [⟨(some 41),.mv (.tmp 3),none⟩,
           ⟨(some 42),.call (.const (.fn 16 [] [])) [(.inr (.tmp 41))],none⟩,
           ⟨(some 40),.mv (.tmp 42),none⟩,
           ⟨(some 43),.extract (.tmp 40) 0,none⟩,
           ⟨(some 44),.extract (.tmp 40) 1,none⟩,
           ⟨(some 7),.take 43,none⟩,
           ⟨(some 8),.take 44,none⟩])
        (.seq (.region false [⟨(some 45),.mv (.tmp 8),none⟩,
            ⟨(some 46),.bin .eql .prim (.tmp 45) (.const (.int .i64 0)),none⟩,
            ⟨(some 47),.mv (.tmp 46),none⟩,
            ⟨(some 48),.mv (.tmp 7),(some (47,true))⟩,
            ⟨(some 49),.conv .ofBytes (.tmp 48),(some (47,true))⟩,
            ⟨(some 50),.mv (.tmp 0),(some (47,true))⟩,
            ⟨(some 51),.conv .ofBytes (.tmp 50),(some (47,true))⟩,
            ⟨(some 52),.bin .eql .prim (.tmp 49) (.tmp 51),(some (47,true))⟩,
            ⟨(some 53),.pick (.tmp 47) (.tmp 52) (.const (.bool false)),none⟩,
            ⟨(some 54),.mv (.tmp 53),none⟩,
            ⟨(some 55),.call (.const (.fn 9 [] [])) [],(some (54,true))⟩,
            ⟨(some 56),.pick (.tmp 54) (.tmp 55) (.const (.bool false)),none⟩,
            ⟨(some 2),.take 56,none⟩])
         (.ret))))))))
def Qp:AFn:=⟨57,[.tmp 2],JO,false⟩
def U4:List Nat:=[27,28,29,30,38,48,49,50,51,52,55]
def Gh:ZA :=
  .seq (.region false [⟨(some 6),.mv (.const (.bool false)),none⟩])
  (.seq (.region false [⟨(some 12),.mv (.tmp 0),none⟩,
      ⟨(some 13),.call (.const (.fn 16 [] [])) [(.inr (.tmp 12))],none⟩,
      ⟨(some 11),.mv (.tmp 13),none⟩,
      ⟨(some 14),.extract (.tmp 11) 0,none⟩,
      ⟨(some 15),.extract (.tmp 11) 1,none⟩,
      ⟨(some 7),.take 14,none⟩,
      ⟨(some 8),.take 15,none⟩])
   (.seq (.seq (.region false [⟨(some 16),.mv (.tmp 0),none⟩,
        ⟨(some 17),.len .slice (.tmp 16),none⟩,
        ⟨(some 18),.bin .gtr .prim (.tmp 17) (.const (.int .i64 60)),none⟩,
        ⟨(some 19),.mv (.tmp 18),none⟩,
        ⟨(some 20),.mv (.tmp 8),(some (19,false))⟩,
        ⟨(some 21),.bin .neq .prim (.tmp 20) (.const (.int .i64 0)),(some (19,false))⟩,
        ⟨(some 22),.pick (.tmp 19) (.const (.bool true)) (.tmp 21),none⟩,
        ⟨(some 23),.mv (.tmp 22),none⟩,
        ⟨(some 24),.mv (.tmp 7),(some (23,false))⟩,
        ⟨(some 25),.len .slice (.tmp 24),(some (23,false))⟩,
        ⟨(some 26),.bin .eql .prim (.tmp 25) (.const (.int .i64 0)),(some (23,false))⟩,
        ⟨(some 27),.pick (.tmp 23) (.const (.bool true)) (.tmp 26),none⟩,
        ⟨(some 28),.mv (.tmp 27),none⟩,
        ⟨(some 29),.mv (.tmp 2),(some (28,false))⟩,
        ⟨(some 30),.len .slice (.tmp 29),(some (28,false))⟩,
        ⟨(some 31),.bin .gtr .prim (.tmp 30) (.const (.int .i64 100)),(some (28,false))⟩,
        ⟨(some 32),.pick (.tmp 28) (.const (.bool true)) (.tmp 31),none⟩])
     (.cond (.tmp 32) (.seq (.region false [⟨(some 33),.call (.const (.fn 9 [] [])) [],none⟩,
          ⟨(some 6),.take 33,none⟩])
       (.ret))
      (.skip)))
    (.seq (.region false [⟨(some 35),.mv (.tmp 7),none⟩,
        ⟨(some 36),.mv (.tmp 1),none⟩,
        ⟨(some 37),.conv (.int .i64) (.tmp 36),none⟩,
        ⟨(some 38),.mv (.tmp 7),none⟩,
        ⟨(some 39),.len .slice (.tmp 38),none⟩,
        ⟨(some 40),.bin .rem .prim (.tmp 37) (.tmp 39),none⟩,
        ⟨(some 41),.slice (.slice 1) (.tmp 35) none (some (.tmp 40)),none⟩,
        ⟨(some 42),.call (.const (.fn 18 [] [])) [(.inr (.tmp 41))],none⟩,
        ⟨(some 34),.mv (.tmp 42),none⟩,
        ⟨(some 43),.extract (.tmp 34) 0,none⟩,
        ⟨(some 44),.extract (.tmp 34) 1,none⟩,
        ⟨(some 9),.take 43,none⟩,
        ⟨(some 10),.take 44,none⟩])
     (.seq (.seq (.region false [⟨(some 45),.mv (.tmp 10),none⟩,
          ⟨(some 46),.bin .neq .prim (.tmp 45) (.const (.int .i64 7)),none⟩,
          ⟨(some 47),.mv (.tmp 46),none⟩,
          ⟨(some 48),.mv (.tmp 9),(some (47,false))⟩,
          ⟨(some 49),.len .slice (.tmp 48),(some (47,false))⟩,
          ⟨(some 50),.bin .neq .prim (.tmp 49) (.const (.int .i64 0)),(some (47,false))⟩,
          ⟨(some 51),.pick (.tmp 47) (.const (.bool true)) (.tmp 50),none⟩])
       (.cond (.tmp 51) (.seq (.region false [⟨(some 6),.mv (.const (.bool false)),none⟩])
         (.ret))
        (.skip)))
      (.seq (.region false [⟨(some 53),.lit 5 1 [],none⟩,
          ⟨(some 54),.mv (.tmp 7),none⟩,
          ⟨(some 55),.app 1 1 53 (.tmp 54),none⟩,
          ⟨(some 56),.mv (.tmp 2),none⟩,
          ⟨(some 57),.app 1 1 55 (.tmp 56),none⟩,
          ⟨(some 58),.call (.const (.fn 18 [] [])) [(.inr (.tmp 57))],none⟩,
          ⟨(some 52),.mv (.tmp 58),none⟩,
          ⟨(some 59),.extract (.tmp 52) 0,none⟩,
          ⟨(some 60),.extract (.tmp 52) 1,none⟩,
          ⟨(some 9),.take 59,none⟩,
          ⟨(some 10),.take 60,none⟩])
       (.seq (.region false [⟨(some 61),.mv (.tmp 2),none⟩,
           ⟨(some 62),.len .slice (.tmp 61),none⟩,
           ⟨(some 63),.bin .eql .prim (.tmp 62) (.const (.int .i64 0)),none⟩,
           ⟨(some 64),.mv (.tmp 63),none⟩,
           ⟨(some 65),.mv (.tmp 10),(some (64,true))⟩,
           ⟨(some 66),.bin .eql .prim (.tmp 65) (.const (.int .i64 0)),(some (64,true))⟩,
           ⟨(some 67),.pick (.tmp 64) (.tmp 66) (.const (.bool false)),none⟩,
           ⟨(some 68),.mv (.tmp 67),none⟩,
           ⟨(some 69),.mv (.tmp 10),(some (68,false))⟩,
           ⟨(some 70),.bin .eql .prim (.tmp 69) (.const (.int .i64 8)),(some (68,false))⟩,
           ⟨(some 71),.mv (.tmp 70),(some (68,false))⟩,
           ⟨(some 72),.mv (.tmp 9),(some (71,true))⟩,
           ⟨(some 73),.len .slice (.tmp 72),(some (71,true))⟩,
           ⟨(some 74),.bin .eql .prim (.tmp 73) (.const (.int .i64 0)),(some (71,true))⟩,
           ⟨(some 75),.pick (.tmp 71) (.tmp 74) (.const (.bool false)),(some (68,false))⟩,
           ⟨(some 76),.pick (.tmp 68) (.const (.bool true)) (.tmp 75),none⟩,
           ⟨(some 77),.mv (.tmp 76),none⟩,
           ⟨(some 78),.call (.const (.fn 9 [] [])) [],(some (77,true))⟩,
           ⟨(some 79),.pick (.tmp 77) (.tmp 78) (.const (.bool false)),none⟩,
           ⟨(some 6),.take 79,none⟩])
        (.ret)))))))
def Xa:AFn:=⟨80,[.tmp 6],Gh,false⟩
def Hg:List Nat:=[20,21,24,25,26,29,30,31,48,49,50,65,66,69,70,71,72,73,74,75,78]
def Qc:ZA :=
  .seq (.seq (.region false [⟨(some 26),.mv (.tmp 4),none⟩,
      ⟨(some 27),.mv (.tmp 0),none⟩,
      ⟨(some 28),.bin .lss .prim (.tmp 26) (.tmp 27),none⟩])
   (.cond (.tmp 28) (.skip)
    (.exit 0)))
  (.seq (.block 1 (.region false [⟨(some 31),.mv (.tmp 3),none⟩,
       ⟨(some 32),.mv (.tmp 4),none⟩,
       ⟨(some 33),.mv (.tmp 4),none⟩,
       ⟨(some 34),.mv (.tmp 4),none⟩,
       ⟨(some 35),.build [(.int .i64 0),(.int .i64 0),(.int .i64 0),(.int .i64 0),(.int .i64 0),(.int .i64 0)] [(0,1,(.tmp 33)),(2,1,(.const (.int .i64 16))),(5,1,(.tmp 34))],none⟩,
       ⟨(some 36),.ia (.slice 6) (.tmp 31) (.tmp 32),none⟩,
       ⟨none,.st 6 (.tmp 36) (.tmp 35),none⟩]))
   (.region false [⟨(some 29),.mv (.tmp 4),none⟩,
      ⟨(some 30),.bin .add .prim (.tmp 29) (.const (.int .i64 1)),none⟩,
      ⟨(some 4),.take 30,none⟩]))
def X6:ZA:=.loop Qc
def X5:ZA :=
  .seq (.region false [⟨(some 38),.mv (.tmp 3),none⟩,
     ⟨(some 39),.call (.const (.fn 16 [] [])) [(.inr (.tmp 38))],none⟩,
     ⟨(some 37),.mv (.tmp 39),none⟩,
     ⟨(some 40),.extract (.tmp 37) 0,none⟩,
     ⟨(some 41),.extract (.tmp 37) 1,none⟩,
     ⟨(some 5),.take 40,none⟩,
     ⟨(some 6),.take 41,none⟩])
  (.seq (.seq (.region false [⟨(some 42),.mv (.tmp 0),none⟩,
       ⟨(some 43),.bin .gtr .prim (.tmp 42) (.const (.int .i64 50000)),none⟩])
    (.cond (.tmp 43) (.seq (.region false [⟨(some 44),.mv (.tmp 6),none⟩,
         ⟨(some 45),.bin .eql .prim (.tmp 44) (.const (.int .i64 6)),none⟩,
         ⟨(some 46),.mv (.tmp 45),none⟩,
         ⟨(some 47),.mv (.tmp 5),(some (46,true))⟩,
         ⟨(some 48),.len .slice (.tmp 47),(some (46,true))⟩,
         ⟨(some 49),.bin .eql .prim (.tmp 48) (.const (.int .i64 0)),(some (46,true))⟩,
         ⟨(some 50),.pick (.tmp 46) (.tmp 49) (.const (.bool false)),none⟩,
         ⟨(some 51),.mv (.tmp 50),none⟩,
         ⟨(some 52),.call (.const (.fn 9 [] [])) [],(some (51,true))⟩,
         ⟨(some 53),.pick (.tmp 51) (.tmp 52) (.const (.bool false)),none⟩,
         ⟨(some 2),.take 53,none⟩])
      (.ret))
     (.skip)))
   (.seq (.region false [⟨(some 55),.mv (.tmp 5),none⟩,
       ⟨(some 56),.call (.const (.fn 18 [] [])) [(.inr (.tmp 55))],none⟩,
       ⟨(some 54),.mv (.tmp 56),none⟩,
       ⟨(some 57),.extract (.tmp 54) 0,none⟩,
       ⟨(some 58),.extract (.tmp 54) 1,none⟩,
       ⟨(some 7),.take 57,none⟩,
       ⟨(some 8),.take 58,none⟩])
    (.seq (.region false [⟨(some 59),.mv (.tmp 6),none⟩,
        ⟨(some 60),.bin .eql .prim (.tmp 59) (.const (.int .i64 0)),none⟩,
        ⟨(some 61),.mv (.tmp 60),none⟩,
        ⟨(some 62),.mv (.tmp 8),(some (61,true))⟩,
        ⟨(some 63),.bin .eql .prim (.tmp 62) (.const (.int .i64 0)),(some (61,true))⟩,
        ⟨(some 64),.pick (.tmp 61) (.tmp 63) (.const (.bool false)),none⟩,
        ⟨(some 65),.mv (.tmp 64),none⟩,
        ⟨(some 66),.mv (.tmp 3),(some (65,true))⟩,
        ⟨(some 67),.mv (.tmp 7),(some (65,true))⟩,
        ⟨(some 68),.call (.const (.fn 19 [] [])) [(.inr (.tmp 66)),(.inr (.tmp 67))],(some (65,true))⟩,
        ⟨(some 69),.pick (.tmp 65) (.tmp 68) (.const (.bool false)),none⟩,
        ⟨(some 70),.mv (.tmp 69),none⟩,
        ⟨(some 71),.call (.const (.fn 9 [] [])) [],(some (70,true))⟩,
        ⟨(some 72),.pick (.tmp 70) (.tmp 71) (.const (.bool false)),none⟩,
        ⟨(some 2),.take 72,none⟩])
     (.ret))))
def Xd:ZA :=
  .seq (.region false [⟨(some 2),.mv (.const (.bool false)),none⟩])
  (.seq (.seq (.region false [⟨(some 9),.mv (.tmp 0),none⟩,
       ⟨(some 10),.bin .lss .prim (.tmp 9) (.const (.int .i64 0)),none⟩,
       ⟨(some 11),.mv (.tmp 10),none⟩,
       ⟨(some 12),.mv (.tmp 0),(some (11,false))⟩,
       ⟨(some 13),.bin .gtr .prim (.tmp 12) (.const (.int .i64 100)),(some (11,false))⟩,
       ⟨(some 14),.mv (.tmp 13),(some (11,false))⟩,
       ⟨(some 15),.mv (.tmp 0),(some (14,true))⟩,
       ⟨(some 16),.bin .lss .prim (.tmp 15) (.const (.int .i64 49998)),(some (14,true))⟩,
       ⟨(some 17),.pick (.tmp 14) (.tmp 16) (.const (.bool false)),(some (11,false))⟩,
       ⟨(some 18),.pick (.tmp 11) (.const (.bool true)) (.tmp 17),none⟩,
       ⟨(some 19),.mv (.tmp 18),none⟩,
       ⟨(some 20),.mv (.tmp 0),(some (19,false))⟩,
       ⟨(some 21),.bin .gtr .prim (.tmp 20) (.const (.int .i64 50002)),(some (19,false))⟩,
       ⟨(some 22),.pick (.tmp 19) (.const (.bool true)) (.tmp 21),none⟩])
    (.cond (.tmp 22) (.seq (.region false [⟨(some 23),.call (.const (.fn 9 [] [])) [],none⟩,
         ⟨(some 2),.take 23,none⟩])
      (.ret))
     (.skip)))
   (.seq (.region false [⟨(some 24),.mv (.tmp 0),none⟩,
       ⟨(some 25),.mksl 24 [(.int .i64 0),(.int .i64 0),(.int .i64 0),(.int .i64 0),(.int .i64 0),(.int .i64 0)] (.tmp 24),none⟩,
       ⟨(some 3),.take 25,none⟩])
    (.seq (.seq (.region false [⟨(some 4),.mv (.const (.int .i64 0)),none⟩])
      (.block 0 (X6)))
     X5)))
def ZP:AFn:=⟨73,[.tmp 2],Xd,false⟩
def ZB:List Nat:=[12,13,14,15,16,17,20,21,47,48,49,52,62,63,66,67,68,71]
def Bf:ZA :=
  .seq (.region false [⟨(some 0),.mv (.const (.bool false)),none⟩])
  (.seq (.region false [⟨(some 12),.build [(.int .i64 0),(.int .i64 0),(.int .i64 0),(.int .i64 0),(.int .i64 0),(.int .i64 0)] [(0,1,(.const (.int .i64 1))),(2,1,(.const (.int .i64 1)))],none⟩,
      ⟨(some 13),.lit 24 6 [(.tmp 12)],none⟩,
      ⟨(some 14),.call (.const (.fn 16 [] [])) [(.inr (.tmp 13))],none⟩,
      ⟨(some 11),.mv (.tmp 14),none⟩,
      ⟨(some 15),.extract (.tmp 11) 0,none⟩,
      ⟨(some 16),.extract (.tmp 11) 1,none⟩,
      ⟨(some 1),.take 15,none⟩,
      ⟨(some 2),.take 16,none⟩])
   (.seq (.region false [⟨(some 18),.call (.const (.fn 16 [] [])) [(.inr (.const (.own 6 [])))],none⟩,
       ⟨(some 17),.mv (.tmp 18),none⟩,
       ⟨(some 19),.extract (.tmp 17) 0,none⟩,
       ⟨(some 20),.extract (.tmp 17) 1,none⟩,
       ⟨(some 3),.take 19,none⟩,
       ⟨(some 4),.take 20,none⟩])
    (.seq (.region false [⟨(some 22),.call (.const (.fn 10 [] [])) [(.inr (.const (.str [49,48,32,48,32,104,111,108,100,32,51,32,48,32,53])))],none⟩,
        ⟨(some 21),.mv (.tmp 22),none⟩,
        ⟨(some 23),.extract (.tmp 21) 0,none⟩,
        ⟨(some 24),.extract (.tmp 21) 1,none⟩,
        ⟨(some 5),.mk 24 [(.int .i64 0),(.int .i64 0),(.int .i64 0),(.int .i64 0),(.int .i64 0),(.int .i64 0)],none⟩,
        ⟨none,.st 6 (.tmp 5) (.tmp 23),none⟩,
        ⟨(some 6),.take 24,none⟩])
     (.seq (.region false [⟨(some 26),.call (.const (.fn 10 [] [])) [(.inr (.const (.str [49,32,48,32,98,101,103,105,110,32,48,32,48,32,48,48])))],none⟩,
         ⟨(some 25),.mv (.tmp 26),none⟩,
         ⟨(some 27),.extract (.tmp 25) 0,none⟩,
         ⟨(some 28),.extract (.tmp 25) 1,none⟩,
         ⟨(some 7),.mk 24 [(.int .i64 0),(.int .i64 0),(.int .i64 0),(.int .i64 0),(.int .i64 0),(.int .i64 0)],none⟩,
         ⟨none,.st 6 (.tmp 7) (.tmp 27),none⟩,
         ⟨(some 8),.take 28,none⟩])
      (.seq (.region false [⟨(some 30),.mv (.tmp 1),none⟩,
          ⟨(some 31),.call (.const (.fn 18 [] [])) [(.inr (.tmp 30))],none⟩,
          ⟨(some 29),.mv (.tmp 31),none⟩,
          ⟨(some 32),.extract (.tmp 29) 0,none⟩,
          ⟨(some 33),.extract (.tmp 29) 1,none⟩,
          ⟨(some 9),.take 32,none⟩,
          ⟨(some 10),.take 33,none⟩])
       (.seq (.region false [⟨(some 34),.mv (.tmp 2),none⟩,
           ⟨(some 35),.bin .eql .prim (.tmp 34) (.const (.int .i64 0)),none⟩,
           ⟨(some 36),.mv (.tmp 35),none⟩,
           ⟨(some 37),.mv (.tmp 1),(some (36,true))⟩,
           ⟨(some 38),.conv .ofBytes (.tmp 37),(some (36,true))⟩,
           ⟨(some 39),.bin .eql .prim (.tmp 38) (.const (.str [2,2,0,2,0,0,0])),(some (36,true))⟩,
           ⟨(some 40),.pick (.tmp 36) (.tmp 39) (.const (.bool false)),none⟩,
           ⟨(some 41),.mv (.tmp 40),none⟩,
           ⟨(some 42),.mv (.tmp 4),(some (41,true))⟩,
           ⟨(some 43),.bin .eql .prim (.tmp 42) (.const (.int .i64 0)),(some (41,true))⟩,
           ⟨(some 44),.pick (.tmp 41) (.tmp 43) (.const (.bool false)),none⟩,
           ⟨(some 45),.mv (.tmp 44),none⟩,
           ⟨(some 46),.mv (.tmp 3),(some (45,true))⟩,
           ⟨(some 47),.conv .ofBytes (.tmp 46),(some (45,true))⟩,
           ⟨(some 48),.bin .eql .prim (.tmp 47) (.const (.str [0])),(some (45,true))⟩,
           ⟨(some 49),.pick (.tmp 45) (.tmp 48) (.const (.bool false)),none⟩,
           ⟨(some 50),.mv (.tmp 49),none⟩,
           ⟨(some 51),.lda 6 (.tmp 5),(some (50,true))⟩,
           ⟨(some 52),.build [(.int .i64 0),(.int .i64 0),(.int .i64 0),(.int .i64 0),(.int .i64 0),(.int .i64 0)] [(0,1,(.const (.int .i64 10))),(2,1,(.const (.int .i64 3))),(3,1,(.const (.int .i64 3))),(5,1,(.const (.int .i64 5)))],(some (50,true))⟩,
           ⟨(some 53),.bin .eql (.struct [.int,.int,.int,.int,.int,.int]) (.tmp 51) (.tmp 52),(some (50,true))⟩,
           ⟨(some 54),.pick (.tmp 50) (.tmp 53) (.const (.bool false)),none⟩,
           ⟨(some 55),.mv (.tmp 54),none⟩,
           ⟨(some 56),.mv (.tmp 6),(some (55,true))⟩,
           ⟨(some 57),.bin .eql .prim (.tmp 56) (.const (.int .i64 0)),(some (55,true))⟩,
           ⟨(some 58),.pick (.tmp 55) (.tmp 57) (.const (.bool false)),none⟩,
           ⟨(some 59),.mv (.tmp 58),none⟩,
           ⟨(some 60),.lda 6 (.tmp 5),(some (59,true))⟩,
           ⟨(some 61),.call (.const (.fn 14 [] [])) [(.inr (.tmp 60))],(some (59,true))⟩,
           ⟨(some 62),.bin .eql .prim (.tmp 61) (.const (.str [49,48,32,48,32,104,111,108,100,32,51,32,48,32,53])),(some (59,true))⟩,
           ⟨(some 63),.pick (.tmp 59) (.tmp 62) (.const (.bool false)),none⟩,
           ⟨(some 64),.mv (.tmp 63),none⟩,
           ⟨(some 65),.mv (.tmp 8),(some (64,true))⟩,
           ⟨(some 66),.bin .eql .prim (.tmp 65) (.const (.int .i64 8)),(some (64,true))⟩,
           ⟨(some 67),.pick (.tmp 64) (.tmp 66) (.const (.bool false)),none⟩,
           ⟨(some 68),.mv (.tmp 67),none⟩,
           ⟨(some 69),.mv (.tmp 10),(some (68,true))⟩,
           ⟨(some 70),.bin .eql .prim (.tmp 69) (.const (.int .i64 0)),(some (68,true))⟩,
           ⟨(some 71),.pick (.tmp 68) (.tmp 70) (.const (.bool false)),none⟩,
           ⟨(some 72),.mv (.tmp 71),none⟩,
           ⟨(some 73),.mv (.tmp 9),(some (72,true))⟩,
           ⟨(some 74),.len .slice (.tmp 73),(some (72,true))⟩,
           ⟨(some 75),.bin .eql .prim (.tmp 74) (.const (.int .i64 1)),(some (72,true))⟩,
           ⟨(some 76),.pick (.tmp 72) (.tmp 75) (.const (.bool false)),none⟩,
           ⟨(some 77),.mv (.tmp 76),none⟩,
           ⟨(some 78),.build [(.int .i64 0),(.int .i64 0),(.int .i64 0),(.int .i64 0),(.int .i64 0),(.int .i64 0)] [],(some (77,true))⟩,
           ⟨(some 79),.call (.const (.fn 12 [] [])) [(.inr (.tmp 78))],(some (77,true))⟩,
           ⟨(some 80),.bin .eql .prim (.tmp 79) (.const (.int .i64 1)),(some (77,true))⟩,
           ⟨(some 81),.pick (.tmp 77) (.tmp 80) (.const (.bool false)),none⟩,
           ⟨(some 0),.take 81,none⟩])
        (.ret)))))))
def Jq:AFn:=⟨82,[.tmp 0],Bf,false⟩
def BV:List Nat:=[37,38,39,42,43,46,47,48,51,52,53,56,57,60,61,62,65,66,69,70,73,74,75,78,79,80]
def MS:ZA :=
  .seq (.region false [⟨(some 4),.mv (.const (.own 1 [])),none⟩])
  (.seq (.region false [⟨(some 5),.mv (.tmp 0),none⟩,
      ⟨(some 6),.mv (.tmp 1),none⟩,
      ⟨(some 7),.call (.const (.fn 49 [] [])) [(.inr (.tmp 6))],none⟩,
      ⟨(some 8),.call (.const (.fn 48 [] [])) [(.inr (.tmp 5)),(.inr (.tmp 7))],none⟩,
      ⟨(some 4),.take 8,none⟩])
   (.ret))
def VI:AFn:=⟨9,[.tmp 4],MS,false⟩
def Lc:List Nat:=[]
def Xe:ZA :=
  .seq (.region false [⟨(some 18),.bin .lss .prim (.tmp 17) (.tmp 16),none⟩])
  (.seq (.cond (.tmp 18) (.skip)
    (.exit 0))
   (.seq (.block 1 (.seq (.region false [⟨(some 19),.mv (.tmp 17),none⟩,
         ⟨(some 20),.ia (.slice 1) (.tmp 15) (.tmp 17),none⟩,
         ⟨(some 21),.ldc (.tmp 20),none⟩,
         ⟨(some 6),.take 19,none⟩,
         ⟨(some 7),.take 21,none⟩])
      (.region false [⟨(some 23),.mv (.tmp 6),none⟩,
         ⟨(some 24),.mv (.tmp 7),none⟩,
         ⟨(some 25),.call (.const (.fn 22 [] [])) [(.inr (.tmp 24))],none⟩,
         ⟨(some 22),.mv (.tmp 25),none⟩,
         ⟨(some 26),.extract (.tmp 22) 0,none⟩,
         ⟨(some 27),.extract (.tmp 22) 1,none⟩,
         ⟨(some 28),.ia (.arr 6 1) (.tmp 5) (.tmp 23),none⟩,
         ⟨none,.stt (.tmp 28) 26,none⟩])))
    (.region false [⟨(some 29),.bin .add .prim (.tmp 17) (.const (.int .i64 1)),none⟩,
       ⟨(some 17),.mv (.tmp 29),none⟩])))
def VX:ZA:=.loop Xe
def VW:ZA :=
  .seq (.regionB [⟨(some 30),.ia (.arr 6 1) (.tmp 5) (.const (.int .i64 0)),none⟩,
     ⟨(some 31),.ldc (.tmp 30),none⟩,
     ⟨(some 32),.ia (.arr 6 1) (.tmp 5) (.const (.int .i64 1)),none⟩,
     ⟨(some 33),.ldc (.tmp 32),none⟩,
     ⟨(some 34),.ldc (.glob 0),none⟩,
     ⟨(some 35),.mv (.tmp 4),none⟩,
     ⟨(some 36),.ia (.slice 1) (.tmp 35) (.const (.int .i64 2)),none⟩,
     ⟨(some 37),.ldc (.tmp 36),none⟩,
     ⟨(some 38),.call (.const (.fn 23 [] [])) [(.inr (.tmp 34)),(.inr (.tmp 37))],none⟩,
     ⟨(some 39),.bin .add .prim (.const (.int .i64 1)) (.tmp 38),none⟩,
     ⟨(some 40),.ia (.arr 6 1) (.tmp 5) (.const (.int .i64 3)),none⟩,
     ⟨(some 41),.ldc (.tmp 40),none⟩,
     ⟨(some 42),.ia (.arr 6 1) (.tmp 5) (.const (.int .i64 4)),none⟩,
     ⟨(some 43),.ldc (.tmp 42),none⟩,
     ⟨(some 44),.ia (.arr 6 1) (.tmp 5) (.const (.int .i64 5)),none⟩,
     ⟨(some 45),.ldc (.tmp 44),none⟩,
     ⟨(some 46),.build [(.int .i64 0),(.int .i64 0),(.int .i64 0),(.int .i64 0),(.int .i64 0),(.int .i64 0)] [(0,1,(.tmp 31)),(1,1,(.tmp 33)),(2,1,(.tmp 39)),(3,1,(.tmp 41)),(4,1,(.tmp 43)),(5,1,(.tmp 45))],none⟩,
     ⟨(some 8),.mk 24 [(.int .i64 0),(.int .i64 0),(.int .i64 0),(.int .i64 0),(.int .i64 0),(.int .i64 0)],none⟩,
     ⟨none,.st 6 (.tmp 8) (.tmp 46),none⟩])
  (.seq (.seq (.region false [⟨(some 47),.lda 6 (.tmp 8),none⟩,
       ⟨(some 48),.call (.const (.fn 14 [] [])) [(.inr (.tmp 47))],none⟩,
       ⟨(some 49),.mv (.tmp 0),none⟩,
       ⟨(some 50),.bin .neq .prim (.tmp 48) (.tmp 49),none⟩])
    (.cond (.tmp 50) (.seq (.region false [⟨(some 51),.build [(.int .i64 0),(.int .i64 0),(.int .i64 0),(.int .i64 0),(.int .i64 0),(.int .i64 0)] [],none⟩,
         ⟨none,.st 6 (.tmp 2) (.tmp 51),none⟩,
         ⟨(some 3),.mv (.const (.int .i64 8)),none⟩])
      (.ret))
     (.skip)))
   (.seq (.region false [⟨(some 52),.lda 6 (.tmp 8),none⟩,
       ⟨none,.st 6 (.tmp 2) (.tmp 52),none⟩,
       ⟨(some 3),.mv (.const (.int .i64 0)),none⟩])
    (.ret)))
def VN:ZA :=
  .seq (.region false [⟨(some 2),.mk 24 [(.int .i64 0),(.int .i64 0),(.int .i64 0),(.int .i64 0),(.int .i64 0),(.int .i64 0)],none⟩,
     ⟨(some 3),.mv (.const (.int .i64 0)),none⟩])
  (.seq (.region false [⟨(some 9),.mv (.tmp 0),none⟩,
      ⟨(some 10),.call (.const (.fn 21 [] [])) [(.inr (.tmp 9)),(.inr (.const (.str [32])))],none⟩,
      ⟨(some 4),.take 10,none⟩])
   (.seq (.seq (.region false [⟨(some 11),.mv (.tmp 4),none⟩,
        ⟨(some 12),.len .slice (.tmp 11),none⟩,
        ⟨(some 13),.bin .neq .prim (.tmp 12) (.const (.int .i64 6)),none⟩])
     (.cond (.tmp 13) (.seq (.region false [⟨(some 14),.build [(.int .i64 0),(.int .i64 0),(.int .i64 0),(.int .i64 0),(.int .i64 0),(.int .i64 0)] [],none⟩,
          ⟨none,.st 6 (.tmp 2) (.tmp 14),none⟩,
          ⟨(some 3),.mv (.const (.int .i64 8)),none⟩])
       (.ret))
      (.skip)))
    (.seq (.region false [⟨(some 5),.mk 47 [(.int .i64 0),(.int .i64 0),(.int .i64 0),(.int .i64 0),(.int .i64 0),(.int .i64 0)],none⟩])
     (.seq (.seq (.region false [⟨(some 15),.mv (.tmp 4),none⟩,
          ⟨(some 16),.len .slice (.tmp 15),none⟩,
          ⟨(some 17),.mv (.const (.int .i64 0)),none⟩])
       (.block 0 (VX)))
      VW))))
def Y0:AFn:=⟨53,[.agg 2 6,.tmp 3],VN,false⟩
def ZY:List Nat:=[]
def MX:ZA :=
  .seq (.region false [⟨(some 1),.box 24 6 (.tmp 0),none⟩,
     ⟨(some 2),.mv (.const (.int .i64 0)),none⟩])
  (.seq (.block 0 (.seq (.region false [⟨(some 4),.fa 2 (.tmp 1),none⟩,
        ⟨(some 5),.ldc (.tmp 4),none⟩,
        ⟨(some 6),.bin .lss .prim (.tmp 5) (.const (.int .i64 1)),none⟩,
        ⟨(some 7),.mv (.tmp 6),none⟩,
        ⟨(some 8),.fa 2 (.tmp 1),(some (7,false))⟩,
        ⟨(some 9),.ldc (.tmp 8),(some (7,false))⟩,
        ⟨(some 10),.bin .gtr .prim (.tmp 9) (.const (.int .i64 18)),(some (7,false))⟩,
        ⟨(some 11),.pick (.tmp 7) (.const (.bool true)) (.tmp 10),none⟩,
        ⟨(some 3),.take 11,none⟩])
     (.cond (.tmp 3) (.seq (.region false [⟨(some 2),.mv (.const (.int .i64 1)),none⟩])
       (.ret))
      (.seq (.seq (.region false [⟨(some 13),.fa 0 (.tmp 1),none⟩,
           ⟨(some 14),.ldc (.tmp 13),none⟩,
           ⟨(some 15),.call (.const (.fn 27 [] [])) [(.inr (.tmp 14)),(.inr (.const (.int .i64 1000000000)))],none⟩,
           ⟨(some 16),.un .not (.tmp 15),none⟩,
           ⟨(some 12),.take 16,none⟩])
        (.cond (.tmp 12) (.skip)
         (.seq (.region false [⟨(some 17),.fa 1 (.tmp 1),none⟩,
             ⟨(some 18),.ldc (.tmp 17),none⟩,
             ⟨(some 19),.call (.const (.fn 27 [] [])) [(.inr (.tmp 18)),(.inr (.const (.int .i64 15)))],none⟩,
             ⟨(some 20),.un .not (.tmp 19),none⟩,
             ⟨(some 12),.take 20,none⟩])
          (.cond (.tmp 12) (.skip)
           (.seq (.region false [⟨(some 21),.fa 3 (.tmp 1),none⟩,
               ⟨(some 22),.ldc (.tmp 21),none⟩,
               ⟨(some 23),.call (.const (.fn 27 [] [])) [(.inr (.tmp 22)),(.inr (.const (.int .i64 1000000000000)))],none⟩,
               ⟨(some 24),.un .not (.tmp 23),none⟩,
               ⟨(some 12),.take 24,none⟩])
            (.cond (.tmp 12) (.skip)
             (.seq (.region false [⟨(some 25),.fa 4 (.tmp 1),none⟩,
                 ⟨(some 26),.ldc (.tmp 25),none⟩,
                 ⟨(some 27),.call (.const (.fn 27 [] [])) [(.inr (.tmp 26)),(.inr (.const (.int .i64 63)))],none⟩,
                 ⟨(some 28),.un .not (.tmp 27),none⟩,
                 ⟨(some 12),.take 28,none⟩])
              (.cond (.tmp 12) (.skip)
               (.region false [⟨(some 29),.fa 5 (.tmp 1),none⟩,
                  ⟨(some 30),.ldc (.tmp 29),none⟩,
                  ⟨(some 31),.call (.const (.fn 28 [] [])) [(.inr (.tmp 30))],none⟩,
                  ⟨(some 32),.un .not (.tmp 31),none⟩,
                  ⟨(some 12),.take 32,none⟩])))))))))
       (.cond (.tmp 12) (.seq (.region false [⟨(some 2),.mv (.const (.int .i64 2)),none⟩])
         (.ret))
        (.skip))))))
   (.seq (.region false [⟨(some 2),.mv (.const (.int .i64 0)),none⟩])
    (.ret)))
def VL:AFn:=⟨33,[.tmp 2],MX,false⟩
def Lh:List Nat:=[8,9,10]
def N8:ZA :=
  .seq (.region false [⟨(some 1),.box 24 6 (.tmp 0),none⟩,
     ⟨(some 2),.mv (.const (.int .i64 0)),none⟩])
  (.seq (.seq (.region false [⟨(some 3),.fa 2 (.tmp 1),none⟩,
       ⟨(some 4),.ldc (.tmp 3),none⟩,
       ⟨(some 5),.bin .lss .prim (.tmp 4) (.const (.int .i64 1)),none⟩,
       ⟨(some 6),.mv (.tmp 5),none⟩,
       ⟨(some 7),.fa 2 (.tmp 1),(some (6,false))⟩,
       ⟨(some 8),.ldc (.tmp 7),(some (6,false))⟩,
       ⟨(some 9),.bin .gtr .prim (.tmp 8) (.const (.int .i64 18)),(some (6,false))⟩,
       ⟨(some 10),.pick (.tmp 6) (.const (.bool true)) (.tmp 9),none⟩])
    (.cond (.tmp 10) (.seq (.region false [⟨(some 2),.mv (.const (.int .i64 1)),none⟩])
      (.ret))
     (.skip)))
   (.seq (.seq (.region false [⟨(some 11),.fa 0 (.tmp 1),none⟩,
        ⟨(some 12),.ldc (.tmp 11),none⟩,
        ⟨(some 13),.call (.const (.fn 29 [] [])) [(.inr (.tmp 12)),(.inr (.const (.int .i64 1000000000)))],none⟩,
        ⟨(some 14),.un .not (.tmp 13),none⟩,
        ⟨(some 15),.mv (.tmp 14),none⟩,
        ⟨(some 16),.fa 1 (.tmp 1),(some (15,false))⟩,
        ⟨(some 17),.ldc (.tmp 16),(some (15,false))⟩,
        ⟨(some 18),.call (.const (.fn 29 [] [])) [(.inr (.tmp 17)),(.inr (.const (.int .i64 15)))],(some (15,false))⟩,
        ⟨(some 19),.un .not (.tmp 18),(some (15,false))⟩,
        ⟨(some 20),.pick (.tmp 15) (.const (.bool true)) (.tmp 19),none⟩,
        ⟨(some 21),.mv (.tmp 20),none⟩,
        ⟨(some 22),.fa 3 (.tmp 1),(some (21,false))⟩,
        ⟨(some 23),.ldc (.tmp 22),(some (21,false))⟩,
        ⟨(some 24),.call (.const (.fn 29 [] [])) [(.inr (.tmp 23)),(.inr (.const (.int .i64 1000000000000)))],(some (21,false))⟩,
        ⟨(some 25),.un .not (.tmp 24),(some (21,false))⟩,
        ⟨(some 26),.pick (.tmp 21) (.const (.bool true)) (.tmp 25),none⟩,
        ⟨(some 27),.mv (.tmp 26),none⟩,
        ⟨(some 28),.fa 4 (.tmp 1),(some (27,false))⟩,
        ⟨(some 29),.ldc (.tmp 28),(some (27,false))⟩,
        ⟨(some 30),.call (.const (.fn 29 [] [])) [(.inr (.tmp 29)),(.inr (.const (.int .i64 63)))],(some (27,false))⟩,
        ⟨(some 31),.un .not (.tmp 30),(some (27,false))⟩,
        ⟨(some 32),.pick (.tmp 27) (.const (.bool true)) (.tmp 31),none⟩,
        ⟨(some 33),.mv (.tmp 32),none⟩,
        ⟨(some 34),.fa 5 (.tmp 1),(some (33,false))⟩,
        ⟨(some 35),.ldc (.tmp 34),(some (33,false))⟩,
        ⟨(some 36),.call (.const (.fn 30 [] [])) [(.inr (.tmp 35))],(some (33,false))⟩,
        ⟨(some 37),.un .not (.tmp 36),(some (33,false))⟩,
        ⟨(some 38),.pick (.tmp 33) (.const (.bool true)) (.tmp 37),none⟩])
     (.cond (.tmp 38) (.seq (.region false [⟨(some 2),.mv (.const (.int .i64 2)),none⟩])
       (.ret))
      (.skip)))
    (.seq (.region false [⟨(some 2),.mv (.const (.int .i64 0)),none⟩])
     (.ret))))
def KA:AFn:=⟨39,[.tmp 2],N8,false⟩
def Sm:List Nat:=[7,8,9,16,17,18,19,22,23,24,25,28,29,30,31,34,35,36,37]
def Bh:ZA :=
  .seq (.region false [⟨(some 1),.box 24 6 (.tmp 0),none⟩,
     ⟨(some 2),.mv (.const (.str [])),none⟩])
  (.seq (.seq (.region false [⟨(some 3),.lda 6 (.tmp 1),none⟩,
       ⟨(some 4),.call (.const (.fn 12 [] [])) [(.inr (.tmp 3))],none⟩,
       ⟨(some 5),.bin .neq .prim (.tmp 4) (.const (.int .i64 0)),none⟩])
    (.cond (.tmp 5) (.seq (.region false [⟨(some 2),.mv (.const (.str [])),none⟩])
      (.ret))
     (.skip)))
   (.seq (.region true [⟨(some 6),.fa 0 (.tmp 1),none⟩,
       ⟨(some 7),.ldc (.tmp 6),none⟩,
       ⟨(some 8),.call (.const (.fn 32 [] [])) [(.inr (.tmp 7))],none⟩,
       ⟨(some 9),.fa 1 (.tmp 1),none⟩,
       ⟨(some 10),.ldc (.tmp 9),none⟩,
       ⟨(some 11),.call (.const (.fn 32 [] [])) [(.inr (.tmp 10))],none⟩,
       ⟨(some 12),.ldc (.glob 0),none⟩,
       ⟨(some 13),.fa 2 (.tmp 1),none⟩,
       ⟨(some 14),.ldc (.tmp 13),none⟩,
       ⟨(some 15),.bin .sub .prim (.tmp 14) (.const (.int .i64 1)),none⟩,
       ⟨(some 16),.ia (.slice 1) (.tmp 12) (.tmp 15),none⟩,
       ⟨(some 17),.ldc (.tmp 16),none⟩,
       ⟨(some 18),.fa 3 (.tmp 1),none⟩,
       ⟨(some 19),.ldc (.tmp 18),none⟩,
       ⟨(some 20),.call (.const (.fn 32 [] [])) [(.inr (.tmp 19))],none⟩,
       ⟨(some 21),.fa 4 (.tmp 1),none⟩,
       ⟨(some 22),.ldc (.tmp 21),none⟩,
       ⟨(some 23),.call (.const (.fn 32 [] [])) [(.inr (.tmp 22))],none⟩,
       ⟨(some 24),.fa 5 (.tmp 1),none⟩,
       ⟨(some 25),.ldc (.tmp 24),none⟩,
       ⟨(some 26),.call (.const (.fn 32 [] [])) [(.inr (.tmp 25))],none⟩,
       ⟨(some 27),.lit 9 1 [(.tmp 8),(.tmp 11),(.tmp 17),(.tmp 20),(.tmp 23),(.tmp 26)],none⟩,
       ⟨(some 28),.call (.const (.fn 31 [] [])) [(.inr (.tmp 27)),(.inr (.const (.str [32])))],none⟩,
       ⟨(some 2),.take 28,none⟩])
    (.ret)))
def Js:AFn:=⟨29,[.tmp 2],Bh,false⟩
def BZ:List Nat:=[]
def QO:ZA :=
  .seq (.region false [⟨(some 23),.bin .lss .prim (.tmp 22) (.tmp 21),none⟩])
  (.seq (.cond (.tmp 23) (.skip)
    (.exit 0))
   (.seq (.block 1 (.seq (.region false [⟨(some 24),.ia (.slice 6) (.tmp 20) (.tmp 22),none⟩,
         ⟨(some 25),.lda 6 (.tmp 24),none⟩,
         ⟨(some 7),.mk 24 [(.int .i64 0),(.int .i64 0),(.int .i64 0),(.int .i64 0),(.int .i64 0),(.int .i64 0)],none⟩,
         ⟨none,.st 6 (.tmp 7) (.tmp 25),none⟩])
      (.seq (.seq (.region false [⟨(some 26),.lda 6 (.tmp 7),none⟩,
           ⟨(some 27),.call (.const (.fn 12 [] [])) [(.inr (.tmp 26))],none⟩,
           ⟨(some 8),.take 27,none⟩])
        (.seq (.region false [⟨(some 28),.mv (.tmp 8),none⟩,
            ⟨(some 29),.bin .neq .prim (.tmp 28) (.const (.int .i64 0)),none⟩])
         (.cond (.tmp 29) (.seq (.region false [⟨(some 30),.take 8,none⟩,
              ⟨(some 2),.mv (.const (.own 1 [])),none⟩,
              ⟨(some 3),.take 30,none⟩])
           (.ret))
          (.skip))))
       (.seq (.seq (.region false [⟨(some 31),.fa 0 (.tmp 7),none⟩,
            ⟨(some 32),.ldc (.tmp 31),none⟩,
            ⟨(some 33),.mv (.tmp 5),none⟩,
            ⟨(some 34),.bin .lss .prim (.tmp 32) (.tmp 33),none⟩])
         (.cond (.tmp 34) (.seq (.region false [⟨(some 2),.mv (.const (.own 1 [])),none⟩,
              ⟨(some 3),.mv (.const (.int .i64 12)),none⟩])
           (.ret))
          (.skip)))
        (.seq (.region false [⟨(some 35),.take 4,none⟩,
            ⟨(some 36),.lda 6 (.tmp 7),none⟩,
            ⟨(some 37),.mv (.tmp 5),none⟩,
            ⟨(some 38),.call (.const (.fn 34 [] [])) [(.inr (.tmp 36)),(.inr (.tmp 37))],none⟩,
            ⟨(some 39),.app 1 8 35 (.tmp 38),none⟩,
            ⟨(some 4),.take 39,none⟩])
         (.region false [⟨(some 40),.fa 0 (.tmp 7),none⟩,
            ⟨(some 41),.ldc (.tmp 40),none⟩,
            ⟨(some 5),.take 41,none⟩]))))))
    (.region false [⟨(some 42),.bin .add .prim (.tmp 22) (.const (.int .i64 1)),none⟩,
       ⟨(some 22),.mv (.tmp 42),none⟩])))
def V7:ZA:=.loop QO
def V6:ZA :=
  .seq (.region false [⟨(some 9),.mk 34 [(.own 1 [])],none⟩])
  (.seq (.seq (.region false [⟨(some 43),.mv (.tmp 4),none⟩,
       ⟨(some 44),.call (.const (.fn 35 [] [])) [(.inr (.tmp 43)),(.inr (.const (.int .i64 1000)))],none⟩])
    (.block 2 (.bad)))
   (.seq (.region false [⟨(some 59),.ldt (.tmp 9),none⟩,
       ⟨(some 2),.take 59,none⟩,
       ⟨(some 3),.mv (.const (.int .i64 0)),none⟩])
    (.ret)))
def Y2:ZA :=
  .seq (.region false [⟨(some 2),.mv (.const (.own 1 [])),none⟩,
     ⟨(some 3),.mv (.const (.int .i64 0)),none⟩])
  (.seq (.seq (.region false [⟨(some 14),.mv (.tmp 0),none⟩,
       ⟨(some 15),.len .slice (.tmp 14),none⟩,
       ⟨(some 16),.bin .gtr .prim (.tmp 15) (.const (.int .i64 50000)),none⟩])
    (.cond (.tmp 16) (.seq (.region false [⟨(some 2),.mv (.const (.own 1 [])),none⟩,
         ⟨(some 3),.mv (.const (.int .i64 6)),none⟩])
      (.ret))
     (.skip)))
   (.seq (.region false [⟨(some 17),.mv (.tmp 0),none⟩,
       ⟨(some 18),.len .slice (.tmp 17),none⟩,
       ⟨(some 19),.lit 3 1 [(.tmp 18)],none⟩,
       ⟨(some 4),.take 19,none⟩])
    (.seq (.region false [⟨(some 5),.mv (.const (.int .i64 0)),none⟩])
     (.seq (.seq (.region false [⟨(some 20),.mv (.tmp 0),none⟩,
          ⟨(some 21),.len .slice (.tmp 20),none⟩,
          ⟨(some 22),.mv (.const (.int .i64 0)),none⟩])
       (.block 0 (V7)))
      V6))))
def Zz:AFn:=⟨60,[.tmp 2,.tmp 3],Y2,false⟩
def Zw:List Nat:=[]
theorem MF:cFn Tryd.prog takes Tryd.f16=some Zz:=by kernel_rfl
theorem U0:(Tryd.f16.name == "runtime.NumGoroutine")=false:=by kernel_rfl
def XG:ZA :=
  .seq (.seq (.region false [⟨(some 70),.mv (.tmp 9),none⟩,
      ⟨(some 71),.mv (.tmp 8),none⟩,
      ⟨(some 72),.len .slice (.tmp 71),none⟩,
      ⟨(some 73),.bin .lss .prim (.tmp 70) (.tmp 72),none⟩])
   (.cond (.tmp 73) (.skip)
    (.exit 2)))
  (.seq (.block 3 (.region false [⟨(some 76),.mv (.tmp 4),none⟩,
       ⟨(some 77),.mv (.tmp 8),none⟩,
       ⟨(some 78),.mv (.tmp 9),none⟩,
       ⟨(some 79),.ia (.slice 1) (.tmp 77) (.tmp 78),none⟩,
       ⟨(some 80),.ldc (.tmp 79),none⟩,
       ⟨(some 81),.call (.const (.fn 37 [] [])) [(.inr (.tmp 76)),(.inr (.tmp 80))],none⟩,
       ⟨(some 4),.take 81,none⟩]))
   (.region false [⟨(some 74),.mv (.tmp 9),none⟩,
      ⟨(some 75),.bin .add .prim (.tmp 74) (.const (.int .i64 1)),none⟩,
      ⟨(some 9),.take 75,none⟩]))
def Uf:ZA:=.loop XG
def Ub:ZA :=
  .region false [⟨(some 82),.mv (.tmp 0),none⟩,
    ⟨(some 83),.mv (.tmp 6),none⟩,
    ⟨(some 84),.ia (.slice 6) (.tmp 82) (.tmp 83),none⟩,
    ⟨(some 85),.fa 0 (.tmp 84),none⟩,
    ⟨(some 86),.ldc (.tmp 85),none⟩,
    ⟨(some 5),.take 86,none⟩]
def Uc:ZA :=
  .region false [⟨(some 20),.mv (.tmp 6),none⟩,
    ⟨(some 21),.bin .add .prim (.tmp 20) (.const (.int .i64 1)),none⟩,
    ⟨(some 6),.take 21,none⟩]
def QL:ZA :=
  .seq (.seq (.region false [⟨(some 16),.mv (.tmp 6),none⟩,
      ⟨(some 17),.mv (.tmp 0),none⟩,
      ⟨(some 18),.len .slice (.tmp 17),none⟩,
      ⟨(some 19),.bin .lss .prim (.tmp 16) (.tmp 18),none⟩])
   (.cond (.tmp 19) (.skip)
    (.exit 0)))
  (.seq (.block 1 (.seq (.region false [⟨(some 22),.mv (.tmp 0),none⟩,
        ⟨(some 23),.mv (.tmp 6),none⟩,
        ⟨(some 24),.ia (.slice 6) (.tmp 22) (.tmp 23),none⟩,
        ⟨(some 25),.lda 6 (.tmp 24),none⟩,
        ⟨(some 26),.call (.const (.fn 13 [] [])) [(.inr (.tmp 25))],none⟩,
        ⟨(some 7),.take 26,none⟩])
     (.seq (.seq (.region false [⟨(some 27),.mv (.tmp 7),none⟩,
          ⟨(some 28),.bin .neq .prim (.tmp 27) (.const (.int .i64 0)),none⟩])
       (.cond (.tmp 28) (.seq (.region false [⟨(some 29),.take 7,none⟩,
            ⟨(some 2),.mv (.const (.own 1 [])),none⟩,
            ⟨(some 3),.take 29,none⟩])
         (.ret))
        (.skip)))
      (.seq (.seq (.region false [⟨(some 30),.mv (.tmp 0),none⟩,
           ⟨(some 31),.mv (.tmp 6),none⟩,
           ⟨(some 32),.ia (.slice 6) (.tmp 30) (.tmp 31),none⟩,
           ⟨(some 33),.fa 0 (.tmp 32),none⟩,
           ⟨(some 34),.ldc (.tmp 33),none⟩,
           ⟨(some 35),.mv (.tmp 5),none⟩,
           ⟨(some 36),.bin .lss .prim (.tmp 34) (.tmp 35),none⟩])
        (.cond (.tmp 36) (.seq (.region false [⟨(some 2),.mv (.const (.own 1 [])),none⟩,
             ⟨(some 3),.mv (.const (.int .i64 12)),none⟩])
          (.ret))
         (.skip)))
       (.seq (.region true [⟨(some 37),.mv (.tmp 0),none⟩,
           ⟨(some 38),.mv (.tmp 6),none⟩,
           ⟨(some 39),.ia (.slice 6) (.tmp 37) (.tmp 38),none⟩,
           ⟨(some 40),.fa 0 (.tmp 39),none⟩,
           ⟨(some 41),.ldc (.tmp 40),none⟩,
           ⟨(some 42),.mv (.tmp 5),none⟩,
           ⟨(some 43),.bin .sub .prim (.tmp 41) (.tmp 42),none⟩,
           ⟨(some 44),.mv (.tmp 0),none⟩,
           ⟨(some 45),.mv (.tmp 6),none⟩,
           ⟨(some 46),.ia (.slice 6) (.tmp 44) (.tmp 45),none⟩,
           ⟨(some 47),.fa 1 (.tmp 46),none⟩,
           ⟨(some 48),.ldc (.tmp 47),none⟩,
           ⟨(some 49),.mv (.tmp 0),none⟩,
           ⟨(some 50),.mv (.tmp 6),none⟩,
           ⟨(some 51),.ia (.slice 6) (.tmp 49) (.tmp 50),none⟩,
           ⟨(some 52),.fa 2 (.tmp 51),none⟩,
           ⟨(some 53),.ldc (.tmp 52),none⟩,
           ⟨(some 54),.mv (.tmp 0),none⟩,
           ⟨(some 55),.mv (.tmp 6),none⟩,
           ⟨(some 56),.ia (.slice 6) (.tmp 54) (.tmp 55),none⟩,
           ⟨(some 57),.fa 3 (.tmp 56),none⟩,
           ⟨(some 58),.ldc (.tmp 57),none⟩,
           ⟨(some 59),.mv (.tmp 0),none⟩,
           ⟨(some 60),.mv (.tmp 6),none⟩,
           ⟨(some 61),.ia (.slice 6) (.tmp 59) (.tmp 60),none⟩,
           ⟨(some 62),.fa 4 (.tmp 61),none⟩,
           ⟨(some 63),.ldc (.tmp 62),none⟩,
           ⟨(some 64),.mv (.tmp 0),none⟩,
           ⟨(some 65),.mv (.tmp 6),none⟩,
           ⟨(some 66),.ia (.slice 6) (.tmp 64) (.tmp 65),none⟩,
           ⟨(some 67),.fa 5 (.tmp 66),none⟩,
           ⟨(some 68),.ldc (.tmp 67),none⟩,
           ⟨(some 69),.lit 3 1 [(.tmp 43),(.tmp 48),(.tmp 53),(.tmp 58),(.tmp 63),(.tmp 68)],none⟩,
           ⟨(some 8),.take 69,none⟩])
        (.seq (.seq (.region false [⟨(some 9),.mv (.const (.int .i64 0)),none⟩])
          (.block 2 (Uf)))
         Ub))))))
   Uc)
def Ue:ZA:=.loop QL
def Ud:ZA :=
  .seq (.region false [⟨(some 87),.take 4,none⟩,
     ⟨(some 2),.take 87,none⟩,
     ⟨(some 3),.mv (.const (.int .i64 0)),none⟩])
  (.ret)
def Ua:ZA :=
  .seq (.region false [⟨(some 2),.mv (.const (.own 1 [])),none⟩,
     ⟨(some 3),.mv (.const (.int .i64 0)),none⟩])
  (.seq (.seq (.region false [⟨(some 10),.mv (.tmp 0),none⟩,
       ⟨(some 11),.len .slice (.tmp 10),none⟩,
       ⟨(some 12),.bin .gtr .prim (.tmp 11) (.const (.int .i64 50000)),none⟩])
    (.cond (.tmp 12) (.seq (.region false [⟨(some 2),.mv (.const (.own 1 [])),none⟩,
         ⟨(some 3),.mv (.const (.int .i64 6)),none⟩])
      (.ret))
     (.skip)))
   (.seq (.region false [⟨(some 13),.mv (.tmp 0),none⟩,
       ⟨(some 14),.len .slice (.tmp 13),none⟩,
       ⟨(some 15),.call (.const (.fn 37 [] [])) [(.inr (.const (.own 1 []))),(.inr (.tmp 14))],none⟩,
       ⟨(some 4),.take 15,none⟩,
       ⟨(some 5),.mv (.const (.int .i64 0)),none⟩])
    (.seq (.seq (.region false [⟨(some 6),.mv (.const (.int .i64 0)),none⟩])
      (.block 0 (Ue)))
     Ud)))
def Yf:AFn:=⟨88,[.tmp 2,.tmp 3],Ua,false⟩
def Z9:List Nat:=[]
def QN:ZA :=
  .seq (.region false [⟨(some 34),.bin .lss .prim (.tmp 33) (.tmp 32),none⟩])
  (.seq (.cond (.tmp 34) (.skip)
    (.exit 1))
   (.seq (.block 2 (.seq (.region false [⟨(some 8),.mk 24 [(.int .i64 0),(.int .i64 0),(.int .i64 0),(.int .i64 0),(.int .i64 0),(.int .i64 0)],none⟩])
      (.seq (.region false [⟨(some 35),.mv (.tmp 7),none⟩,
          ⟨(some 36),.mv (.tmp 4),none⟩,
          ⟨(some 37),.call (.const (.fn 38 [] [])) [(.inr (.tmp 36))],none⟩,
          ⟨(some 38),.bin .add .prim (.tmp 35) (.tmp 37),none⟩,
          ⟨(some 7),.take 38,none⟩])
       (.seq (.region false [⟨(some 39),.mv (.tmp 7),none⟩,
           ⟨(some 40),.fa 0 (.tmp 8),none⟩,
           ⟨none,.stt (.tmp 40) 39,none⟩])
        (.seq (.region false [⟨(some 41),.mv (.tmp 4),none⟩,
            ⟨(some 42),.call (.const (.fn 38 [] [])) [(.inr (.tmp 41))],none⟩,
            ⟨(some 43),.fa 1 (.tmp 8),none⟩,
            ⟨none,.stt (.tmp 43) 42,none⟩])
         (.seq (.region false [⟨(some 44),.mv (.tmp 4),none⟩,
             ⟨(some 45),.call (.const (.fn 38 [] [])) [(.inr (.tmp 44))],none⟩,
             ⟨(some 46),.fa 2 (.tmp 8),none⟩,
             ⟨none,.stt (.tmp 46) 45,none⟩])
          (.seq (.region false [⟨(some 47),.mv (.tmp 4),none⟩,
              ⟨(some 48),.call (.const (.fn 38 [] [])) [(.inr (.tmp 47))],none⟩,
              ⟨(some 49),.fa 3 (.tmp 8),none⟩,
              ⟨none,.stt (.tmp 49) 48,none⟩])
           (.seq (.region false [⟨(some 50),.mv (.tmp 4),none⟩,
               ⟨(some 51),.call (.const (.fn 38 [] [])) [(.inr (.tmp 50))],none⟩,
               ⟨(some 52),.fa 4 (.tmp 8),none⟩,
               ⟨none,.stt (.tmp 52) 51,none⟩])
            (.seq (.region false [⟨(some 53),.mv (.tmp 4),none⟩,
                ⟨(some 54),.call (.const (.fn 38 [] [])) [(.inr (.tmp 53))],none⟩,
                ⟨(some 55),.fa 5 (.tmp 8),none⟩,
                ⟨none,.stt (.tmp 55) 54,none⟩])
             (.seq (.seq (.region false [⟨(some 56),.mv (.tmp 4),none⟩,
                  ⟨(some 57),.nilchk (.tmp 56),none⟩,
                  ⟨(some 58),.fa 1 (.tmp 57),none⟩,
                  ⟨(some 59),.ldc (.tmp 58),none⟩,
                  ⟨(some 60),.bin .neq .prim (.tmp 59) (.const (.int .i64 0)),none⟩])
               (.cond (.tmp 60) (.seq (.region true [⟨(some 61),.mv (.tmp 4),none⟩,
                    ⟨(some 62),.nilchk (.tmp 61),none⟩,
                    ⟨(some 63),.fa 1 (.tmp 62),none⟩,
                    ⟨(some 64),.ldc (.tmp 63),none⟩,
                    ⟨(some 2),.mv (.const (.own 6 [])),none⟩,
                    ⟨(some 3),.mv (.tmp 64),none⟩])
                 (.ret))
                (.skip)))
              (.region false [⟨(some 65),.take 6,none⟩,
                 ⟨(some 66),.lda 6 (.tmp 8),none⟩,
                 ⟨(some 67),.lit 24 6 [(.tmp 66)],none⟩,
                 ⟨(some 68),.app 6 48 65 (.tmp 67),none⟩,
                 ⟨(some 6),.take 68,none⟩])))))))))))
    (.region false [⟨(some 69),.bin .add .prim (.tmp 33) (.const (.int .i64 1)),none⟩,
       ⟨(some 33),.mv (.tmp 69),none⟩])))
def V5:ZA:=.loop QN
def V4:ZA :=
  .seq (.region false [⟨(some 71),.mv (.tmp 6),none⟩,
     ⟨(some 72),.call (.const (.fn 16 [] [])) [(.inr (.tmp 71))],none⟩,
     ⟨(some 70),.mv (.tmp 72),none⟩,
     ⟨(some 73),.extract (.tmp 70) 0,none⟩,
     ⟨(some 74),.extract (.tmp 70) 1,none⟩,
     ⟨(some 9),.take 73,none⟩,
     ⟨(some 10),.take 74,none⟩])
  (.seq (.seq (.region false [⟨(some 75),.mv (.tmp 4),none⟩,
       ⟨(some 76),.nilchk (.tmp 75),none⟩,
       ⟨(some 77),.fa 0 (.tmp 76),none⟩,
       ⟨(some 78),.ldc (.tmp 77),none⟩,
       ⟨(some 79),.len .slice (.tmp 78),none⟩,
       ⟨(some 80),.bin .gtr .prim (.tmp 79) (.const (.int .i64 0)),none⟩,
       ⟨(some 81),.mv (.tmp 80),none⟩,
       ⟨(some 82),.mv (.tmp 10),(some (81,false))⟩,
       ⟨(some 83),.bin .neq .prim (.tmp 82) (.const (.int .i64 0)),(some (81,false))⟩,
       ⟨(some 84),.pick (.tmp 81) (.const (.bool true)) (.tmp 83),none⟩,
       ⟨(some 85),.mv (.tmp 84),none⟩,
       ⟨(some 86),.mv (.tmp 9),(some (85,false))⟩,
       ⟨(some 87),.mv (.tmp 0),(some (85,false))⟩,
       ⟨(some 88),.call (.const (.fn 39 [] [])) [(.inr (.tmp 86)),(.inr (.tmp 87))],(some (85,false))⟩,
       ⟨(some 89),.un .not (.tmp 88),(some (85,false))⟩,
       ⟨(some 90),.pick (.tmp 85) (.const (.bool true)) (.tmp 89),none⟩])
    (.cond (.tmp 90) (.seq (.region false [⟨(some 2),.mv (.const (.own 6 [])),none⟩,
         ⟨(some 3),.mv (.const (.int .i64 8)),none⟩])
      (.ret))
     (.skip)))
   (.seq (.region false [⟨(some 91),.take 6,none⟩,
       ⟨(some 2),.take 91,none⟩,
       ⟨(some 3),.mv (.const (.int .i64 0)),none⟩])
    (.ret)))
def Vg:ZA :=
  .seq (.region false [⟨(some 2),.mv (.const (.own 6 [])),none⟩,
     ⟨(some 3),.mv (.const (.int .i64 0)),none⟩])
  (.seq (.region false [⟨(some 11),.mv (.tmp 0),none⟩,
      ⟨(some 12),.build [(.own 1 []),(.int .i64 0)] [(0,1,(.tmp 11))],none⟩,
      ⟨(some 13),.box 64 2 (.tmp 12),none⟩,
      ⟨(some 4),.take 13,none⟩])
   (.seq (.region false [⟨(some 14),.mv (.tmp 4),none⟩,
       ⟨(some 15),.call (.const (.fn 38 [] [])) [(.inr (.tmp 14))],none⟩,
       ⟨(some 5),.take 15,none⟩])
    (.seq (.block 0 (.seq (.region false [⟨(some 17),.mv (.tmp 4),none⟩,
          ⟨(some 18),.nilchk (.tmp 17),none⟩,
          ⟨(some 19),.fa 1 (.tmp 18),none⟩,
          ⟨(some 20),.ldc (.tmp 19),none⟩,
          ⟨(some 21),.bin .neq .prim (.tmp 20) (.const (.int .i64 0)),none⟩,
          ⟨(some 16),.take 21,none⟩])
       (.cond (.tmp 16) (.seq (.region true [⟨(some 22),.mv (.tmp 4),none⟩,
            ⟨(some 23),.nilchk (.tmp 22),none⟩,
            ⟨(some 24),.fa 1 (.tmp 23),none⟩,
            ⟨(some 25),.ldc (.tmp 24),none⟩,
            ⟨(some 2),.mv (.const (.own 6 [])),none⟩,
            ⟨(some 3),.mv (.tmp 25),none⟩])
         (.ret))
        (.seq (.region false [⟨(some 27),.mv (.tmp 5),none⟩,
            ⟨(some 28),.bin .lss .prim (.tmp 27) (.const (.int .i64 0)),none⟩,
            ⟨(some 26),.take 28,none⟩])
         (.cond (.tmp 26) (.seq (.region false [⟨(some 2),.mv (.const (.own 6 [])),none⟩,
              ⟨(some 3),.mv (.const (.int .i64 8)),none⟩])
           (.ret))
          (.seq (.region false [⟨(some 30),.mv (.tmp 5),none⟩,
              ⟨(some 31),.bin .gtr .prim (.tmp 30) (.const (.int .i64 50000)),none⟩,
              ⟨(some 29),.take 31,none⟩])
           (.cond (.tmp 29) (.seq (.region false [⟨(some 2),.mv (.const (.own 6 [])),none⟩,
                ⟨(some 3),.mv (.const (.int .i64 6)),none⟩])
             (.ret))
            (.skip))))))))
     (.seq (.region false [⟨(some 6),.mv (.const (.own 6 [])),none⟩])
      (.seq (.region false [⟨(some 7),.mv (.const (.int .i64 0)),none⟩])
       (.seq (.seq (.region false [⟨(some 32),.mv (.tmp 5),none⟩,
            ⟨(some 33),.mv (.const (.int .i64 0)),none⟩])
         (.block 1 (V5)))
        V4))))))
def Ym:AFn:=⟨92,[.tmp 2,.tmp 3],Vg,false⟩
def ZO:List Nat:=[82,83,86,87,88,89]
def VM:ZA :=
  .seq (.seq (.region false [⟨(some 11),.mv (.tmp 5),none⟩,
      ⟨(some 12),.mv (.tmp 0),none⟩,
      ⟨(some 13),.len .slice (.tmp 12),none⟩,
      ⟨(some 14),.bin .lss .prim (.tmp 11) (.tmp 13),none⟩])
   (.cond (.tmp 14) (.skip)
    (.exit 0)))
  (.seq (.block 1 (.seq (.region true [⟨(some 17),.mv (.tmp 0),none⟩,
        ⟨(some 18),.mv (.tmp 5),none⟩,
        ⟨(some 19),.ia (.slice 6) (.tmp 17) (.tmp 18),none⟩,
        ⟨(some 20),.lda 6 (.tmp 19),none⟩,
        ⟨(some 21),.mv (.tmp 1),none⟩,
        ⟨(some 22),.mv (.tmp 5),none⟩,
        ⟨(some 23),.ia (.slice 6) (.tmp 21) (.tmp 22),none⟩,
        ⟨(some 24),.lda 6 (.tmp 23),none⟩,
        ⟨(some 25),.bin .neq (.struct [.int,.int,.int,.int,.int,.int]) (.tmp 20) (.tmp 24),none⟩])
     (.cond (.tmp 25) (.seq (.region false [⟨(some 4),.mv (.const (.bool false)),none⟩])
       (.ret))
      (.skip))))
   (.region false [⟨(some 15),.mv (.tmp 5),none⟩,
      ⟨(some 16),.bin .add .prim (.tmp 15) (.const (.int .i64 1)),none⟩,
      ⟨(some 5),.take 16,none⟩]))
def Gj:ZA:=.loop VM
def Gi:ZA :=
  .seq (.region false [⟨(some 4),.mv (.const (.bool true)),none⟩])
  (.ret)
def Hz:ZA :=
  .seq (.region false [⟨(some 4),.mv (.const (.bool false)),none⟩])
  (.seq (.seq (.region false [⟨(some 6),.mv (.tmp 0),none⟩,
       ⟨(some 7),.len .slice (.tmp 6),none⟩,
       ⟨(some 8),.mv (.tmp 1),none⟩,
       ⟨(some 9),.len .slice (.tmp 8),none⟩,
       ⟨(some 10),.bin .neq .prim (.tmp 7) (.tmp 9),none⟩])
    (.cond (.tmp 10) (.seq (.region false [⟨(some 4),.mv (.const (.bool false)),none⟩])
      (.ret))
     (.skip)))
   (.seq (.seq (.region false [⟨(some 5),.mv (.const (.int .i64 0)),none⟩])
     (.block 0 (Gj)))
    Gi))
def Qa:AFn:=⟨26,[.tmp 4],Hz,false⟩
def YZ:List Nat:=[]
def XF:ZA :=
  .seq (.seq (.region false [⟨(some 38),.mv (.tmp 11),none⟩,
      ⟨(some 39),.bin .lss .prim (.tmp 38) (.const (.int .i64 6)),none⟩])
   (.cond (.tmp 39) (.skip)
    (.exit 3)))
  (.seq (.block 4 (.seq (.region false [⟨(some 43),.mv (.tmp 0),none⟩,
        ⟨(some 44),.mv (.tmp 5),none⟩,
        ⟨(some 45),.slice (.slice 1) (.tmp 43) (some (.tmp 44)) none,none⟩,
        ⟨(some 46),.call (.const (.fn 40 [] [])) [(.inr (.tmp 45))],none⟩,
        ⟨(some 42),.mv (.tmp 46),none⟩,
        ⟨(some 47),.extract (.tmp 42) 0,none⟩,
        ⟨(some 48),.extract (.tmp 42) 1,none⟩,
        ⟨(some 49),.extract (.tmp 42) 2,none⟩,
        ⟨(some 12),.take 47,none⟩,
        ⟨(some 13),.take 48,none⟩,
        ⟨(some 14),.take 49,none⟩])
     (.seq (.seq (.region false [⟨(some 50),.mv (.tmp 14),none⟩,
          ⟨(some 51),.bin .neq .prim (.tmp 50) (.const (.int .i64 0)),none⟩])
       (.cond (.tmp 51) (.seq (.region false [⟨(some 52),.take 14,none⟩,
            ⟨(some 2),.mv (.const (.own 6 [])),none⟩,
            ⟨(some 3),.take 52,none⟩])
         (.ret))
        (.skip)))
      (.seq (.region false [⟨(some 53),.mv (.tmp 11),none⟩,
          ⟨(some 54),.mv (.tmp 12),none⟩,
          ⟨(some 55),.ia (.arr 6 1) (.tmp 10) (.tmp 53),none⟩,
          ⟨none,.stt (.tmp 55) 54,none⟩])
       (.region false [⟨(some 56),.mv (.tmp 5),none⟩,
          ⟨(some 57),.mv (.tmp 13),none⟩,
          ⟨(some 58),.bin .add .prim (.tmp 56) (.tmp 57),none⟩,
          ⟨(some 5),.take 58,none⟩])))))
   (.region false [⟨(some 40),.mv (.tmp 11),none⟩,
      ⟨(some 41),.bin .add .prim (.tmp 40) (.const (.int .i64 1)),none⟩,
      ⟨(some 11),.take 41,none⟩]))
def JZ:ZA:=.loop XF
def JV:ZA :=
  .seq (.region false [⟨(some 59),.mv (.tmp 8),none⟩,
     ⟨(some 60),.ia (.arr 6 1) (.tmp 10) (.const (.int .i64 0)),none⟩,
     ⟨(some 61),.ldc (.tmp 60),none⟩,
     ⟨(some 62),.bin .add .prim (.tmp 59) (.tmp 61),none⟩,
     ⟨(some 8),.take 62,none⟩])
  (.region false [⟨(some 63),.take 7,none⟩,
     ⟨(some 64),.mv (.tmp 8),none⟩,
     ⟨(some 65),.ia (.arr 6 1) (.tmp 10) (.const (.int .i64 1)),none⟩,
     ⟨(some 66),.ldc (.tmp 65),none⟩,
     ⟨(some 67),.ia (.arr 6 1) (.tmp 10) (.const (.int .i64 2)),none⟩,
     ⟨(some 68),.ldc (.tmp 67),none⟩,
     ⟨(some 69),.ia (.arr 6 1) (.tmp 10) (.const (.int .i64 3)),none⟩,
     ⟨(some 70),.ldc (.tmp 69),none⟩,
     ⟨(some 71),.ia (.arr 6 1) (.tmp 10) (.const (.int .i64 4)),none⟩,
     ⟨(some 72),.ldc (.tmp 71),none⟩,
     ⟨(some 73),.ia (.arr 6 1) (.tmp 10) (.const (.int .i64 5)),none⟩,
     ⟨(some 74),.ldc (.tmp 73),none⟩,
     ⟨(some 75),.build [(.int .i64 0),(.int .i64 0),(.int .i64 0),(.int .i64 0),(.int .i64 0),(.int .i64 0)] [(0,1,(.tmp 64)),(1,1,(.tmp 66)),(2,1,(.tmp 68)),(3,1,(.tmp 70)),(4,1,(.tmp 72)),(5,1,(.tmp 74))],none⟩,
     ⟨(some 76),.lit 24 6 [(.tmp 75)],none⟩,
     ⟨(some 77),.app 6 48 63 (.tmp 76),none⟩,
     ⟨(some 7),.take 77,none⟩])
def JW:ZA :=
  .region false [⟨(some 36),.mv (.tmp 9),none⟩,
    ⟨(some 37),.bin .add .prim (.tmp 36) (.const (.int .i64 1)),none⟩,
    ⟨(some 9),.take 37,none⟩]
def QK:ZA :=
  .seq (.seq (.region false [⟨(some 33),.mv (.tmp 9),none⟩,
      ⟨(some 34),.mv (.tmp 4),none⟩,
      ⟨(some 35),.bin .lss .prim (.tmp 33) (.tmp 34),none⟩])
   (.cond (.tmp 35) (.skip)
    (.exit 1)))
  (.seq (.block 2 (.seq (.region false [⟨(some 10),.mk 47 [(.int .i64 0),(.int .i64 0),(.int .i64 0),(.int .i64 0),(.int .i64 0),(.int .i64 0)],none⟩])
     (.seq (.seq (.region false [⟨(some 11),.mv (.const (.int .i64 0)),none⟩])
       (.block 3 (JZ)))
      JV)))
   JW)
def JY:ZA:=.loop QK
def JX:ZA :=
  .seq (.region false [⟨(some 79),.mv (.tmp 7),none⟩,
     ⟨(some 80),.call (.const (.fn 17 [] [])) [(.inr (.tmp 79))],none⟩,
     ⟨(some 78),.mv (.tmp 80),none⟩,
     ⟨(some 81),.extract (.tmp 78) 0,none⟩,
     ⟨(some 82),.extract (.tmp 78) 1,none⟩,
     ⟨(some 15),.take 81,none⟩,
     ⟨(some 16),.take 82,none⟩])
  (.seq (.seq (.region false [⟨(some 83),.mv (.tmp 16),none⟩,
       ⟨(some 84),.bin .neq .prim (.tmp 83) (.const (.int .i64 0)),none⟩,
       ⟨(some 85),.mv (.tmp 84),none⟩,
       ⟨(some 86),.mv (.tmp 15),(some (85,false))⟩,
       ⟨(some 87),.conv .ofBytes (.tmp 86),(some (85,false))⟩,
       ⟨(some 88),.mv (.tmp 0),(some (85,false))⟩,
       ⟨(some 89),.conv .ofBytes (.tmp 88),(some (85,false))⟩,
       ⟨(some 90),.bin .neq .prim (.tmp 87) (.tmp 89),(some (85,false))⟩,
       ⟨(some 91),.pick (.tmp 85) (.const (.bool true)) (.tmp 90),none⟩])
    (.cond (.tmp 91) (.seq (.region false [⟨(some 2),.mv (.const (.own 6 [])),none⟩,
         ⟨(some 3),.mv (.const (.int .i64 8)),none⟩])
      (.ret))
     (.skip)))
   (.seq (.region false [⟨(some 92),.take 7,none⟩,
       ⟨(some 2),.take 92,none⟩,
       ⟨(some 3),.mv (.const (.int .i64 0)),none⟩])
    (.ret)))
def JU:ZA :=
  .seq (.region false [⟨(some 2),.mv (.const (.own 6 [])),none⟩,
     ⟨(some 3),.mv (.const (.int .i64 0)),none⟩])
  (.seq (.region false [⟨(some 18),.mv (.tmp 0),none⟩,
      ⟨(some 19),.call (.const (.fn 40 [] [])) [(.inr (.tmp 18))],none⟩,
      ⟨(some 17),.mv (.tmp 19),none⟩,
      ⟨(some 20),.extract (.tmp 17) 0,none⟩,
      ⟨(some 21),.extract (.tmp 17) 1,none⟩,
      ⟨(some 22),.extract (.tmp 17) 2,none⟩,
      ⟨(some 4),.take 20,none⟩,
      ⟨(some 5),.take 21,none⟩,
      ⟨(some 6),.take 22,none⟩])
   (.seq (.block 0 (.seq (.region false [⟨(some 24),.mv (.tmp 6),none⟩,
         ⟨(some 25),.bin .neq .prim (.tmp 24) (.const (.int .i64 0)),none⟩,
         ⟨(some 23),.take 25,none⟩])
      (.cond (.tmp 23) (.seq (.region false [⟨(some 26),.take 6,none⟩,
           ⟨(some 2),.mv (.const (.own 6 [])),none⟩,
           ⟨(some 3),.take 26,none⟩])
        (.ret))
       (.seq (.region false [⟨(some 28),.mv (.tmp 4),none⟩,
           ⟨(some 29),.bin .lss .prim (.tmp 28) (.const (.int .i64 0)),none⟩,
           ⟨(some 27),.take 29,none⟩])
        (.cond (.tmp 27) (.seq (.region false [⟨(some 2),.mv (.const (.own 6 [])),none⟩,
             ⟨(some 3),.mv (.const (.int .i64 8)),none⟩])
          (.ret))
         (.seq (.region false [⟨(some 31),.mv (.tmp 4),none⟩,
             ⟨(some 32),.bin .gtr .prim (.tmp 31) (.const (.int .i64 50000)),none⟩,
             ⟨(some 30),.take 32,none⟩])
          (.cond (.tmp 30) (.seq (.region false [⟨(some 2),.mv (.const (.own 6 [])),none⟩,
               ⟨(some 3),.mv (.const (.int .i64 6)),none⟩])
            (.ret))
           (.skip))))))))
    (.seq (.region false [⟨(some 7),.mv (.const (.own 6 [])),none⟩])
     (.seq (.region false [⟨(some 8),.mv (.const (.int .i64 0)),none⟩])
      (.seq (.seq (.region false [⟨(some 9),.mv (.const (.int .i64 0)),none⟩])
        (.block 1 (JY)))
       JX)))))
def Ye:AFn:=⟨93,[.tmp 2,.tmp 3],JU,false⟩
def Z8:List Nat:=[86,87,88,89,90]
def QM:ZA :=
  .seq (.seq (.region false [⟨(some 8),.mv (.tmp 4),none⟩,
      ⟨(some 9),.bin .geq .prim (.tmp 8) (.const (.int .u64 128)),none⟩])
   (.cond (.tmp 9) (.skip)
    (.exit 0)))
  (.block 1 (.seq (.region false [⟨(some 10),.mv (.tmp 5),none⟩,
       ⟨(some 11),.mv (.tmp 4),none⟩,
       ⟨(some 12),.conv (.int .u8) (.tmp 11),none⟩,
       ⟨(some 13),.bin .or .prim (.tmp 12) (.const (.int .u8 128)),none⟩,
       ⟨(some 14),.ia (.arr 10 1) (.tmp 3) (.tmp 10),none⟩,
       ⟨none,.stt (.tmp 14) 13,none⟩])
    (.seq (.region false [⟨(some 15),.mv (.tmp 4),none⟩,
        ⟨(some 16),.bin .shr .prim (.tmp 15) (.const (.int .u64 7)),none⟩,
        ⟨(some 4),.take 16,none⟩])
     (.region false [⟨(some 17),.mv (.tmp 5),none⟩,
        ⟨(some 18),.bin .add .prim (.tmp 17) (.const (.int .i64 1)),none⟩,
        ⟨(some 5),.take 18,none⟩]))))
def V3:ZA:=.loop QM
def Vz:ZA :=
  .seq (.region false [⟨(some 19),.mv (.tmp 5),none⟩,
     ⟨(some 20),.mv (.tmp 4),none⟩,
     ⟨(some 21),.conv (.int .u8) (.tmp 20),none⟩,
     ⟨(some 22),.ia (.arr 10 1) (.tmp 3) (.tmp 19),none⟩,
     ⟨none,.stt (.tmp 22) 21,none⟩])
  (.seq (.region false [⟨(some 23),.mv (.tmp 5),none⟩,
      ⟨(some 24),.bin .add .prim (.tmp 23) (.const (.int .i64 1)),none⟩,
      ⟨(some 25),.mv (.tmp 5),none⟩,
      ⟨(some 26),.bin .add .prim (.tmp 25) (.const (.int .i64 1)),none⟩,
      ⟨(some 27),.slice3 (.arr 10 1) (.tmp 3) (.tmp 24) (.tmp 26),none⟩,
      ⟨(some 2),.take 27,none⟩])
   (.ret))
def Vf:ZA :=
  .seq (.region false [⟨(some 2),.mv (.const (.own 1 [])),none⟩])
  (.seq (.region false [⟨(some 3),.mk 89 [(.int .u8 0),(.int .u8 0),(.int .u8 0),(.int .u8 0),(.int .u8 0),(.int .u8 0),(.int .u8 0),(.int .u8 0),(.int .u8 0),(.int .u8 0)],none⟩])
   (.seq (.region false [⟨(some 6),.mv (.tmp 0),none⟩,
       ⟨(some 7),.call (.const (.fn 61 [] [])) [(.inr (.tmp 6))],none⟩,
       ⟨(some 4),.take 7,none⟩])
    (.seq (.region false [⟨(some 5),.mv (.const (.int .i64 0)),none⟩])
     (.seq (.block 0 (V3))
      Vz))))
def Yl:AFn:=⟨28,[.tmp 2],Vf,false⟩
def ZN:List Nat:=[]
def MV:ZA :=
  .seq (.region false [⟨(some 4),.mv (.const (.own 1 [])),none⟩])
  (.seq (.region false [⟨(some 7),.mv (.tmp 0),none⟩,
      ⟨(some 8),.len .slice (.tmp 7),none⟩,
      ⟨(some 9),.mv (.tmp 1),none⟩,
      ⟨(some 10),.len .slice (.tmp 9),none⟩,
      ⟨(some 11),.bin .add .prim (.tmp 8) (.tmp 10),none⟩,
      ⟨(some 12),.mksl 5 [(.int .u8 0)] (.tmp 11),none⟩,
      ⟨(some 5),.take 12,none⟩])
   (.seq (.region false [⟨(some 13),.mv (.tmp 5),none⟩,
       ⟨(some 14),.mv (.tmp 0),none⟩,
       ⟨(some 15),.copy 1 (.tmp 13) (.tmp 14),none⟩,
       ⟨(some 6),.take 15,none⟩])
    (.seq (.region false [⟨(some 16),.mv (.tmp 5),none⟩,
        ⟨(some 17),.mv (.tmp 6),none⟩,
        ⟨(some 18),.slice (.slice 1) (.tmp 16) (some (.tmp 17)) none,none⟩,
        ⟨(some 19),.mv (.tmp 1),none⟩,
        ⟨(some 20),.copy 1 (.tmp 18) (.tmp 19),none⟩])
     (.seq (.region false [⟨(some 21),.mv (.tmp 5),none⟩,
         ⟨(some 22),.mv (.tmp 5),none⟩,
         ⟨(some 23),.len .slice (.tmp 22),none⟩,
         ⟨(some 24),.mv (.tmp 5),none⟩,
         ⟨(some 25),.len .slice (.tmp 24),none⟩,
         ⟨(some 26),.slice3 (.slice 1) (.tmp 21) (.tmp 23) (.tmp 25),none⟩,
         ⟨(some 4),.take 26,none⟩])
      (.ret)))))
def VJ:AFn:=⟨27,[.tmp 4],MV,false⟩
def Ld:List Nat:=[]
def Yy:ZA :=
  .seq (.region false [⟨(some 9),.bin .lss .prim (.tmp 8) (.tmp 7),none⟩])
  (.seq (.cond (.tmp 9) (.skip)
    (.exit 0))
   (.seq (.block 1 (.seq (.region false [⟨(some 10),.mv (.tmp 8),none⟩,
         ⟨(some 5),.take 10,none⟩])
      (.seq (.region false [⟨(some 11),.mv (.tmp 1),none⟩,
          ⟨(some 12),.mv (.tmp 0),none⟩,
          ⟨(some 13),.mv (.tmp 5),none⟩,
          ⟨(some 14),.ia (.slice 1) (.tmp 12) (.tmp 13),none⟩,
          ⟨(some 15),.ldc (.tmp 14),none⟩,
          ⟨(some 16),.bin .eql .prim (.tmp 11) (.tmp 15),none⟩])
       (.cond (.tmp 16) (.seq (.region false [⟨(some 17),.take 5,none⟩,
            ⟨(some 4),.take 17,none⟩])
         (.ret))
        (.skip)))))
    (.region false [⟨(some 18),.bin .add .prim (.tmp 8) (.const (.int .i64 1)),none⟩,
       ⟨(some 8),.mv (.tmp 18),none⟩])))
def Wv:ZA:=.loop Yy
def Wu:ZA :=
  .seq (.region false [⟨(some 4),.mv (.const (.int .i64 (-1))),none⟩])
  (.ret)
def YE:ZA :=
  .seq (.region false [⟨(some 4),.mv (.const (.int .i64 0)),none⟩])
  (.seq (.seq (.region false [⟨(some 6),.mv (.tmp 0),none⟩,
       ⟨(some 7),.len .slice (.tmp 6),none⟩,
       ⟨(some 8),.mv (.const (.int .i64 0)),none⟩])
    (.block 0 (Wv)))
   Wu)
def Zo:AFn:=⟨19,[.tmp 4],YE,false⟩
def Zk:List Nat:=[]
def OA:ZA :=
  .seq (.region false [⟨(some 4),.mv (.const (.bool false)),none⟩])
  (.seq (.region false [⟨(some 5),.mv (.tmp 0),none⟩,
      ⟨(some 6),.bin .geq .prim (.tmp 5) (.const (.int .i64 0)),none⟩,
      ⟨(some 7),.mv (.tmp 6),none⟩,
      ⟨(some 8),.mv (.tmp 0),(some (7,true))⟩,
      ⟨(some 9),.mv (.tmp 1),(some (7,true))⟩,
      ⟨(some 10),.bin .leq .prim (.tmp 8) (.tmp 9),(some (7,true))⟩,
      ⟨(some 11),.pick (.tmp 7) (.tmp 10) (.const (.bool false)),none⟩,
      ⟨(some 4),.take 11,none⟩])
   (.ret))
def Vb:AFn:=⟨12,[.tmp 4],OA,false⟩
def TN:List Nat:=[8,9,10]
def Zbc:ZA :=
  .seq (.region false [⟨(some 2),.mv (.const (.bool false)),none⟩])
  (.seq (.region false [⟨(some 3),.mv (.tmp 0),none⟩,
      ⟨(some 4),.bin .geq .prim (.tmp 3) (.const (.int .i64 (-1000000000000))),none⟩,
      ⟨(some 5),.mv (.tmp 4),none⟩,
      ⟨(some 6),.mv (.tmp 0),(some (5,true))⟩,
      ⟨(some 7),.bin .leq .prim (.tmp 6) (.const (.int .i64 1000000000000)),(some (5,true))⟩,
      ⟨(some 8),.pick (.tmp 5) (.tmp 7) (.const (.bool false)),none⟩,
      ⟨(some 2),.take 8,none⟩])
   (.ret))
def RX:AFn:=⟨9,[.tmp 2],Zbc,false⟩
def ZbT:List Nat:=[6,7]
def DC:ZA :=
  .seq (.region false [⟨(some 4),.mv (.const (.bool false)),none⟩])
  (.seq (.region false [⟨(some 5),.mv (.tmp 0),none⟩,
      ⟨(some 6),.bin .geq .prim (.tmp 5) (.const (.int .i64 0)),none⟩,
      ⟨(some 7),.mv (.tmp 6),none⟩,
      ⟨(some 8),.mv (.tmp 0),(some (7,true))⟩,
      ⟨(some 9),.mv (.tmp 1),(some (7,true))⟩,
      ⟨(some 10),.bin .leq .prim (.tmp 8) (.tmp 9),(some (7,true))⟩,
      ⟨(some 11),.pick (.tmp 7) (.tmp 10) (.const (.bool false)),none⟩,
      ⟨(some 4),.take 11,none⟩])
   (.ret))
def JJ:AFn:=⟨12,[.tmp 4],DC,false⟩
def PN:List Nat:=[8,9,10]
def Zbd:ZA :=
  .seq (.region false [⟨(some 2),.mv (.const (.bool false)),none⟩])
  (.seq (.region false [⟨(some 3),.mv (.tmp 0),none⟩,
      ⟨(some 4),.bin .geq .prim (.tmp 3) (.const (.int .i64 (-1000000000000))),none⟩,
      ⟨(some 5),.mv (.tmp 4),none⟩,
      ⟨(some 6),.mv (.tmp 0),(some (5,true))⟩,
      ⟨(some 7),.bin .leq .prim (.tmp 6) (.const (.int .i64 1000000000000)),(some (5,true))⟩,
      ⟨(some 8),.pick (.tmp 5) (.tmp 7) (.const (.bool false)),none⟩,
      ⟨(some 2),.take 8,none⟩])
   (.ret))
def RY:AFn:=⟨9,[.tmp 2],Zbd,false⟩
def ZbU:List Nat:=[6,7]
def O9:ZA :=
  .seq (.region false [⟨(some 2),.box 24 6 (.tmp 0),none⟩,
     ⟨(some 4),.mv (.const (.own 1 [])),none⟩])
  (.seq (.region false [⟨(some 5),.fa 0 (.tmp 2),none⟩,
      ⟨(some 6),.ldc (.tmp 5),none⟩,
      ⟨(some 7),.mv (.tmp 1),none⟩,
      ⟨(some 8),.bin .sub .prim (.tmp 6) (.tmp 7),none⟩,
      ⟨(some 9),.fa 1 (.tmp 2),none⟩,
      ⟨(some 10),.ldc (.tmp 9),none⟩,
      ⟨(some 11),.fa 2 (.tmp 2),none⟩,
      ⟨(some 12),.ldc (.tmp 11),none⟩,
      ⟨(some 13),.fa 3 (.tmp 2),none⟩,
      ⟨(some 14),.ldc (.tmp 13),none⟩,
      ⟨(some 15),.fa 4 (.tmp 2),none⟩,
      ⟨(some 16),.ldc (.tmp 15),none⟩,
      ⟨(some 17),.fa 5 (.tmp 2),none⟩,
      ⟨(some 18),.ldc (.tmp 17),none⟩,
      ⟨(some 19),.lit 3 1 [(.tmp 8),(.tmp 10),(.tmp 12),(.tmp 14),(.tmp 16),(.tmp 18)],none⟩,
      ⟨(some 4),.take 19,none⟩])
   (.ret))
def Va:AFn:=⟨20,[.tmp 4],O9,false⟩
def TM:List Nat:=[]
def XE:ZA :=
  .seq (.seq (.region false [⟨(some 12),.mv (.tmp 6),none⟩,
      ⟨(some 13),.bin .geq .prim (.tmp 12) (.const (.int .u64 128)),none⟩])
   (.cond (.tmp 13) (.skip)
    (.exit 0)))
  (.block 1 (.seq (.region false [⟨(some 14),.take 5,none⟩,
       ⟨(some 15),.mv (.tmp 6),none⟩,
       ⟨(some 16),.bin .rem .prim (.tmp 15) (.const (.int .u64 128)),none⟩,
       ⟨(some 17),.conv (.int .u8) (.tmp 16),none⟩,
       ⟨(some 18),.bin .add .prim (.tmp 17) (.const (.int .u8 128)),none⟩,
       ⟨(some 19),.lit 5 1 [(.tmp 18)],none⟩,
       ⟨(some 20),.app 1 1 14 (.tmp 19),none⟩,
       ⟨(some 5),.take 20,none⟩])
    (.region false [⟨(some 21),.mv (.tmp 6),none⟩,
       ⟨(some 22),.bin .quo .prim (.tmp 21) (.const (.int .u64 128)),none⟩,
       ⟨(some 6),.take 22,none⟩])))
def JS:ZA:=.loop XE
def JR:ZA :=
  .seq (.region false [⟨(some 23),.take 5,none⟩,
     ⟨(some 24),.mv (.tmp 6),none⟩,
     ⟨(some 25),.conv (.int .u8) (.tmp 24),none⟩,
     ⟨(some 26),.lit 5 1 [(.tmp 25)],none⟩,
     ⟨(some 27),.app 1 1 23 (.tmp 26),none⟩,
     ⟨(some 4),.take 27,none⟩])
  (.ret)
def JQ:ZA :=
  .seq (.region false [⟨(some 4),.mv (.const (.own 1 [])),none⟩])
  (.seq (.region false [⟨(some 7),.lit 5 1 [],none⟩,
      ⟨(some 8),.mv (.tmp 0),none⟩,
      ⟨(some 9),.app 1 1 7 (.tmp 8),none⟩,
      ⟨(some 5),.take 9,none⟩])
   (.seq (.region false [⟨(some 10),.mv (.tmp 1),none⟩,
       ⟨(some 11),.call (.const (.fn 50 [] [])) [(.inr (.tmp 10))],none⟩,
       ⟨(some 6),.take 11,none⟩])
    (.seq (.block 0 (JS))
     JR)))
def YY:AFn:=⟨28,[.tmp 4],JQ,false⟩
def Yu:List Nat:=[]
def Ju:ZA :=
  .seq (.region false [⟨(some 2),.mv (.const (.int .i64 0)),none⟩])
  (.seq (.seq (.region false [⟨(some 6),.mv (.tmp 0),none⟩,
       ⟨(some 7),.nilchk (.tmp 6),none⟩,
       ⟨(some 8),.fa 1 (.tmp 7),none⟩,
       ⟨(some 9),.ldc (.tmp 8),none⟩,
       ⟨(some 10),.bin .neq .prim (.tmp 9) (.const (.int .i64 0)),none⟩])
    (.cond (.tmp 10) (.seq (.region false [⟨(some 2),.mv (.const (.int .i64 0)),none⟩])
      (.ret))
     (.skip)))
   (.seq (.region false [⟨(some 12),.mv (.tmp 0),none⟩,
       ⟨(some 13),.nilchk (.tmp 12),none⟩,
       ⟨(some 14),.fa 0 (.tmp 13),none⟩,
       ⟨(some 15),.ldc (.tmp 14),none⟩,
       ⟨(some 16),.call (.const (.fn 51 [] [])) [(.inr (.tmp 15))],none⟩,
       ⟨(some 11),.mv (.tmp 16),none⟩,
       ⟨(some 17),.extract (.tmp 11) 0,none⟩,
       ⟨(some 18),.extract (.tmp 11) 1,none⟩,
       ⟨(some 19),.extract (.tmp 11) 2,none⟩,
       ⟨(some 3),.take 17,none⟩,
       ⟨(some 4),.take 18,none⟩,
       ⟨(some 5),.take 19,none⟩])
    (.seq (.region false [⟨(some 20),.mv (.tmp 0),none⟩,
        ⟨(some 21),.mv (.tmp 0),none⟩,
        ⟨(some 22),.mv (.tmp 0),none⟩,
        ⟨(some 23),.nilchk (.tmp 22),none⟩,
        ⟨(some 24),.fa 0 (.tmp 23),none⟩,
        ⟨(some 25),.ldc (.tmp 24),none⟩,
        ⟨(some 26),.mv (.tmp 4),none⟩,
        ⟨(some 27),.slice (.slice 1) (.tmp 25) (some (.tmp 26)) none,none⟩,
        ⟨(some 28),.mv (.tmp 5),none⟩,
        ⟨(some 29),.nilchk (.tmp 20),none⟩,
        ⟨(some 30),.fa 0 (.tmp 29),none⟩,
        ⟨none,.stt (.tmp 30) 27,none⟩,
        ⟨(some 31),.nilchk (.tmp 21),none⟩,
        ⟨(some 32),.fa 1 (.tmp 31),none⟩,
        ⟨none,.stt (.tmp 32) 28,none⟩])
     (.seq (.region false [⟨(some 33),.take 3,none⟩,
         ⟨(some 2),.take 33,none⟩])
      (.ret)))))
def WR:AFn:=⟨34,[.tmp 2],Ju,false⟩
def J8:List Nat:=[]
def Be:ZA :=
  .seq (.region false [⟨(some 4),.mv (.const (.bool false)),none⟩])
  (.seq (.region false [⟨(some 5),.mv (.tmp 0),none⟩,
      ⟨(some 6),.conv .ofBytes (.tmp 5),none⟩,
      ⟨(some 7),.mv (.tmp 1),none⟩,
      ⟨(some 8),.conv .ofBytes (.tmp 7),none⟩,
      ⟨(some 9),.bin .eql .prim (.tmp 6) (.tmp 8),none⟩,
      ⟨(some 4),.take 9,none⟩])
   (.ret))
def Jp:AFn:=⟨10,[.tmp 4],Be,false⟩
def BU:List Nat:=[]
def Jv:ZA :=
  .seq (.seq (.region false [⟨(some 9),.mv (.tmp 7),none⟩,
      ⟨(some 10),.bin .lss .prim (.tmp 9) (.const (.int .i64 10)),none⟩])
   (.cond (.tmp 10) (.skip)
    (.exit 0)))
  (.seq (.block 1 (.seq (.seq (.region false [⟨(some 13),.mv (.tmp 7),none⟩,
         ⟨(some 14),.mv (.tmp 0),none⟩,
         ⟨(some 15),.len .slice (.tmp 14),none⟩,
         ⟨(some 16),.bin .geq .prim (.tmp 13) (.tmp 15),none⟩])
      (.cond (.tmp 16) (.seq (.region false [⟨(some 2),.mv (.const (.int .i64 0)),none⟩,
           ⟨(some 3),.mv (.const (.int .i64 0)),none⟩,
           ⟨(some 4),.mv (.const (.int .i64 7)),none⟩])
        (.ret))
       (.skip)))
     (.seq (.region false [⟨(some 17),.mv (.tmp 0),none⟩,
         ⟨(some 18),.mv (.tmp 7),none⟩,
         ⟨(some 19),.ia (.slice 1) (.tmp 17) (.tmp 18),none⟩,
         ⟨(some 20),.ldc (.tmp 19),none⟩,
         ⟨(some 21),.conv (.int .u64) (.tmp 20),none⟩,
         ⟨(some 8),.take 21,none⟩])
      (.seq (.seq (.region false [⟨(some 22),.mv (.tmp 7),none⟩,
           ⟨(some 23),.bin .eql .prim (.tmp 22) (.const (.int .i64 9)),none⟩,
           ⟨(some 24),.mv (.tmp 23),none⟩,
           ⟨(some 25),.mv (.tmp 8),(some (24,true))⟩,
           ⟨(some 26),.bin .gtr .prim (.tmp 25) (.const (.int .u64 1)),(some (24,true))⟩,
           ⟨(some 27),.pick (.tmp 24) (.tmp 26) (.const (.bool false)),none⟩])
        (.cond (.tmp 27) (.seq (.region false [⟨(some 2),.mv (.const (.int .i64 0)),none⟩,
             ⟨(some 3),.mv (.const (.int .i64 0)),none⟩,
             ⟨(some 4),.mv (.const (.int .i64 8)),none⟩])
          (.ret))
         (.skip)))
       (.seq (.region false [⟨(some 28),.mv (.tmp 5),none⟩,
           ⟨(some 29),.mv (.tmp 8),none⟩,
           ⟨(some 30),.bin .rem .prim (.tmp 29) (.const (.int .u64 128)),none⟩,
           ⟨(some 31),.mv (.tmp 6),none⟩,
           ⟨(some 32),.bin .mul .prim (.tmp 30) (.tmp 31),none⟩,
           ⟨(some 33),.bin .add .prim (.tmp 28) (.tmp 32),none⟩,
           ⟨(some 5),.take 33,none⟩])
        (.seq (.region false [⟨(some 34),.mv (.tmp 6),none⟩,
            ⟨(some 35),.bin .mul .prim (.tmp 34) (.const (.int .u64 128)),none⟩,
            ⟨(some 6),.take 35,none⟩])
         (.seq (.seq (.region false [⟨(some 36),.mv (.tmp 8),none⟩,
              ⟨(some 37),.bin .eql .prim (.tmp 36) (.const (.int .u64 0)),none⟩,
              ⟨(some 38),.mv (.tmp 37),none⟩,
              ⟨(some 39),.mv (.tmp 7),(some (38,true))⟩,
              ⟨(some 40),.bin .gtr .prim (.tmp 39) (.const (.int .i64 0)),(some (38,true))⟩,
              ⟨(some 41),.pick (.tmp 38) (.tmp 40) (.const (.bool false)),none⟩])
           (.cond (.tmp 41) (.seq (.region false [⟨(some 2),.mv (.const (.int .i64 0)),none⟩,
                ⟨(some 3),.mv (.const (.int .i64 0)),none⟩,
                ⟨(some 4),.mv (.const (.int .i64 8)),none⟩])
             (.ret))
            (.skip)))
          (.seq (.region false [⟨(some 42),.mv (.tmp 8),none⟩,
              ⟨(some 43),.bin .lss .prim (.tmp 42) (.const (.int .u64 128)),none⟩])
           (.cond (.tmp 43) (.seq (.region false [⟨(some 44),.mv (.tmp 5),none⟩,
                ⟨(some 45),.call (.const (.fn 52 [] [])) [(.inr (.tmp 44))],none⟩,
                ⟨(some 46),.mv (.tmp 7),none⟩,
                ⟨(some 47),.bin .add .prim (.tmp 46) (.const (.int .i64 1)),none⟩,
                ⟨(some 2),.take 45,none⟩,
                ⟨(some 3),.take 47,none⟩,
                ⟨(some 4),.mv (.const (.int .i64 0)),none⟩])
             (.ret))
            (.skip))))))))))
   (.region false [⟨(some 11),.mv (.tmp 7),none⟩,
      ⟨(some 12),.bin .add .prim (.tmp 11) (.const (.int .i64 1)),none⟩,
      ⟨(some 7),.take 12,none⟩]))
def I5:ZA:=.loop Jv
def I4:ZA :=
  .seq (.region false [⟨(some 2),.mv (.const (.int .i64 0)),none⟩,
     ⟨(some 3),.mv (.const (.int .i64 0)),none⟩,
     ⟨(some 4),.mv (.const (.int .i64 8)),none⟩])
  (.ret)
def O8:ZA :=
  .seq (.region false [⟨(some 2),.mv (.const (.int .i64 0)),none⟩,
     ⟨(some 3),.mv (.const (.int .i64 0)),none⟩,
     ⟨(some 4),.mv (.const (.int .i64 0)),none⟩])
  (.seq (.region false [⟨(some 5),.mv (.const (.int .u64 0)),none⟩])
   (.seq (.region false [⟨(some 6),.mv (.const (.int .u64 1)),none⟩])
    (.seq (.seq (.region false [⟨(some 7),.mv (.const (.int .i64 0)),none⟩])
      (.block 0 (I5)))
     I4)))
def QA:AFn:=⟨48,[.tmp 2,.tmp 3,.tmp 4],O8,false⟩
def WO:List Nat:=[25,26,39,40]
def MW:ZA :=
  .seq (.region false [⟨(some 2),.mv (.const (.int .u64 0)),none⟩])
  (.seq (.region false [⟨(some 3),.mv (.tmp 0),none⟩,
      ⟨(some 4),.conv (.int .u64) (.tmp 3),none⟩,
      ⟨(some 5),.bin .shl .prim (.tmp 4) (.const (.int .u64 1)),none⟩,
      ⟨(some 6),.mv (.tmp 0),none⟩,
      ⟨(some 7),.bin .shr .prim (.tmp 6) (.const (.int .u64 63)),none⟩,
      ⟨(some 8),.conv (.int .u64) (.tmp 7),none⟩,
      ⟨(some 9),.bin .xor .prim (.tmp 5) (.tmp 8),none⟩,
      ⟨(some 2),.take 9,none⟩])
   (.ret))
def VK:AFn:=⟨10,[.tmp 2],MW,false⟩
def Le:List Nat:=[]
def D9:ZA :=
  .seq (.region false [⟨(some 2),.mv (.const (.int .u64 0)),none⟩])
  (.seq (.seq (.region false [⟨(some 3),.mv (.tmp 0),none⟩,
       ⟨(some 4),.bin .lss .prim (.tmp 3) (.const (.int .i64 0)),none⟩])
    (.cond (.tmp 4) (.seq (.region false [⟨(some 5),.mv (.tmp 0),none⟩,
         ⟨(some 6),.bin .add .prim (.tmp 5) (.const (.int .i64 1)),none⟩,
         ⟨(some 7),.un .neg (.tmp 6),none⟩,
         ⟨(some 8),.conv (.int .u64) (.tmp 7),none⟩,
         ⟨(some 9),.bin .mul .prim (.const (.int .u64 2)) (.tmp 8),none⟩,
         ⟨(some 10),.bin .add .prim (.tmp 9) (.const (.int .u64 1)),none⟩,
         ⟨(some 2),.take 10,none⟩])
      (.ret))
     (.skip)))
   (.seq (.region false [⟨(some 11),.mv (.tmp 0),none⟩,
       ⟨(some 12),.conv (.int .u64) (.tmp 11),none⟩,
       ⟨(some 13),.bin .mul .prim (.const (.int .u64 2)) (.tmp 12),none⟩,
       ⟨(some 2),.take 13,none⟩])
    (.ret)))
def JI:AFn:=⟨14,[.tmp 2],D9,false⟩
def PM:List Nat:=[]
def Ve:ZA :=
  .seq (.region false [⟨(some 9),.bin .lss .prim (.tmp 8) (.const (.int .i64 10)),none⟩])
  (.seq (.cond (.tmp 9) (.skip)
    (.exit 0))
   (.seq (.block 1 (.seq (.region false [⟨(some 10),.mv (.tmp 8),none⟩,
         ⟨(some 6),.take 10,none⟩])
      (.seq (.seq (.region false [⟨(some 11),.mv (.tmp 6),none⟩,
           ⟨(some 12),.mv (.tmp 0),none⟩,
           ⟨(some 13),.len .slice (.tmp 12),none⟩,
           ⟨(some 14),.bin .geq .prim (.tmp 11) (.tmp 13),none⟩])
        (.cond (.tmp 14) (.seq (.region false [⟨(some 2),.mv (.const (.int .i64 0)),none⟩,
             ⟨(some 3),.mv (.const (.int .i64 0)),none⟩,
             ⟨(some 4),.mv (.const (.int .i64 7)),none⟩])
          (.ret))
         (.skip)))
       (.seq (.region false [⟨(some 15),.mv (.tmp 0),none⟩,
           ⟨(some 16),.mv (.tmp 6),none⟩,
           ⟨(some 17),.ia (.slice 1) (.tmp 15) (.tmp 16),none⟩,
           ⟨(some 18),.ldc (.tmp 17),none⟩,
           ⟨(some 7),.take 18,none⟩])
        (.seq (.seq (.region false [⟨(some 19),.mv (.tmp 6),none⟩,
             ⟨(some 20),.bin .eql .prim (.tmp 19) (.const (.int .i64 9)),none⟩,
             ⟨(some 21),.mv (.tmp 20),none⟩,
             ⟨(some 22),.mv (.tmp 7),(some (21,true))⟩,
             ⟨(some 23),.bin .gtr .prim (.tmp 22) (.const (.int .u8 1)),(some (21,true))⟩,
             ⟨(some 24),.pick (.tmp 21) (.tmp 23) (.const (.bool false)),none⟩])
          (.cond (.tmp 24) (.seq (.region false [⟨(some 2),.mv (.const (.int .i64 0)),none⟩,
               ⟨(some 3),.mv (.const (.int .i64 0)),none⟩,
               ⟨(some 4),.mv (.const (.int .i64 8)),none⟩])
            (.ret))
           (.skip)))
         (.seq (.region false [⟨(some 25),.mv (.tmp 5),none⟩,
             ⟨(some 26),.mv (.tmp 7),none⟩,
             ⟨(some 27),.bin .andNot .prim (.tmp 26) (.const (.int .u8 128)),none⟩,
             ⟨(some 28),.conv (.int .u64) (.tmp 27),none⟩,
             ⟨(some 29),.mv (.tmp 6),none⟩,
             ⟨(some 30),.bin .mul .prim (.const (.int .i64 7)) (.tmp 29),none⟩,
             ⟨(some 31),.bin .shl .prim (.tmp 28) (.tmp 30),none⟩,
             ⟨(some 32),.bin .or .prim (.tmp 25) (.tmp 31),none⟩,
             ⟨(some 5),.take 32,none⟩])
          (.seq (.seq (.region false [⟨(some 33),.mv (.tmp 7),none⟩,
               ⟨(some 34),.bin .and .prim (.tmp 33) (.const (.int .u8 128)),none⟩,
               ⟨(some 35),.bin .neq .prim (.tmp 34) (.const (.int .u8 0)),none⟩])
            (.cond (.tmp 35) (.exit 1)
             (.skip)))
           (.seq (.seq (.region false [⟨(some 36),.mv (.tmp 7),none⟩,
                ⟨(some 37),.bin .eql .prim (.tmp 36) (.const (.int .u8 0)),none⟩,
                ⟨(some 38),.mv (.tmp 37),none⟩,
                ⟨(some 39),.mv (.tmp 6),(some (38,true))⟩,
                ⟨(some 40),.bin .gtr .prim (.tmp 39) (.const (.int .i64 0)),(some (38,true))⟩,
                ⟨(some 41),.pick (.tmp 38) (.tmp 40) (.const (.bool false)),none⟩])
             (.cond (.tmp 41) (.seq (.region false [⟨(some 2),.mv (.const (.int .i64 0)),none⟩,
                  ⟨(some 3),.mv (.const (.int .i64 0)),none⟩,
                  ⟨(some 4),.mv (.const (.int .i64 8)),none⟩])
               (.ret))
              (.skip)))
            (.seq (.region false [⟨(some 42),.mv (.tmp 5),none⟩,
                ⟨(some 43),.call (.const (.fn 62 [] [])) [(.inr (.tmp 42))],none⟩,
                ⟨(some 44),.mv (.tmp 6),none⟩,
                ⟨(some 45),.bin .add .prim (.tmp 44) (.const (.int .i64 1)),none⟩,
                ⟨(some 2),.take 43,none⟩,
                ⟨(some 3),.take 45,none⟩,
                ⟨(some 4),.mv (.const (.int .i64 0)),none⟩])
             (.ret))))))))))
    (.region false [⟨(some 46),.bin .add .prim (.tmp 8) (.const (.int .i64 1)),none⟩,
       ⟨(some 8),.mv (.tmp 46),none⟩])))
def UY:ZA:=.loop Ve
def UX:ZA :=
  .seq (.region false [⟨(some 2),.mv (.const (.int .i64 0)),none⟩,
     ⟨(some 3),.mv (.const (.int .i64 0)),none⟩,
     ⟨(some 4),.mv (.const (.int .i64 8)),none⟩])
  (.ret)
def KE:ZA :=
  .seq (.region false [⟨(some 2),.mv (.const (.int .i64 0)),none⟩,
     ⟨(some 3),.mv (.const (.int .i64 0)),none⟩,
     ⟨(some 4),.mv (.const (.int .i64 0)),none⟩])
  (.seq (.region false [⟨(some 5),.mv (.const (.int .u64 0)),none⟩])
   (.seq (.seq (.region false [⟨(some 8),.mv (.const (.int .i64 0)),none⟩])
     (.block 0 (UY)))
    UX))
def WF:AFn:=⟨47,[.tmp 2,.tmp 3,.tmp 4],KE,false⟩
def YA:List Nat:=[22,23,39,40]
def Bg:ZA :=
  .seq (.region false [⟨(some 2),.mv (.const (.int .i64 0)),none⟩])
  (.seq (.seq (.region false [⟨(some 3),.mv (.tmp 0),none⟩,
       ⟨(some 4),.bin .rem .prim (.tmp 3) (.const (.int .u64 2)),none⟩,
       ⟨(some 5),.bin .eql .prim (.tmp 4) (.const (.int .u64 1)),none⟩])
    (.cond (.tmp 5) (.seq (.region false [⟨(some 6),.mv (.tmp 0),none⟩,
         ⟨(some 7),.bin .quo .prim (.tmp 6) (.const (.int .u64 2)),none⟩,
         ⟨(some 8),.conv (.int .i64) (.tmp 7),none⟩,
         ⟨(some 9),.un .neg (.tmp 8),none⟩,
         ⟨(some 10),.bin .sub .prim (.tmp 9) (.const (.int .i64 1)),none⟩,
         ⟨(some 2),.take 10,none⟩])
      (.ret))
     (.skip)))
   (.seq (.region false [⟨(some 11),.mv (.tmp 0),none⟩,
       ⟨(some 12),.bin .quo .prim (.tmp 11) (.const (.int .u64 2)),none⟩,
       ⟨(some 13),.conv (.int .i64) (.tmp 12),none⟩,
       ⟨(some 2),.take 13,none⟩])
    (.ret)))
def Jr:AFn:=⟨14,[.tmp 2],Bg,false⟩
def BX:List Nat:=[]
def O7:ZA :=
  .seq (.region false [⟨(some 2),.mv (.const (.int .i64 0)),none⟩])
  (.seq (.region false [⟨(some 3),.mv (.tmp 0),none⟩,
      ⟨(some 4),.bin .shr .prim (.tmp 3) (.const (.int .u64 1)),none⟩,
      ⟨(some 5),.conv (.int .i64) (.tmp 4),none⟩,
      ⟨(some 6),.mv (.tmp 0),none⟩,
      ⟨(some 7),.bin .and .prim (.tmp 6) (.const (.int .u64 1)),none⟩,
      ⟨(some 8),.conv (.int .i64) (.tmp 7),none⟩,
      ⟨(some 9),.un .neg (.tmp 8),none⟩,
      ⟨(some 10),.bin .xor .prim (.tmp 5) (.tmp 9),none⟩,
      ⟨(some 2),.take 10,none⟩])
   (.ret))
def XZ:AFn:=⟨11,[.tmp 2],O7,false⟩
def TL:List Nat:=[]
def tab:List (Nat×AFn):=[(4,QZ),(5,Qq),(6,Qp),(7,Xa),(8,ZP),(9,Jq),(36,VI),(10,Y0),(12,VL),(13,KA),(14,Js),(17,Yf),(18,Ym),(19,Qa),(20,Ye),(49,Yl),(48,VJ),(23,Zo),(27,Vb),(28,RX),(29,JJ),(30,RY),(34,Va),(37,YY),(38,WR),(39,Jp),(40,QA),(61,VK),(50,JI),(51,WF),(52,Jr),(62,XZ)]
theorem ZfS:∀ p ∈ tab,∃ fn takes,Tryd.prog.funcs[p.1]? = some fn∧(fn.name == "runtime.NumGoroutine")=false∧cFn Tryd.prog takes fn=some p.2:=by
  intro p hp
  simp only [tab,List.mem_cons,List.not_mem_nil,or_false] at hp
  rcases hp with rfl | rfl | rfl | rfl | rfl | rfl | rfl | rfl | rfl | rfl | rfl | rfl | rfl | rfl | rfl | rfl | rfl | rfl | rfl | rfl | rfl | rfl | rfl | rfl | rfl | rfl | rfl | rfl | rfl | rfl | rfl | rfl
  · exact ⟨_,takes,Tryd.func4,by kernel_rfl,by kernel_rfl⟩
  · exact ⟨_,takes,Tryd.func5,by kernel_rfl,by kernel_rfl⟩
  · exact ⟨_,takes,Tryd.func6,by kernel_rfl,by kernel_rfl⟩
  · exact ⟨_,takes,Tryd.func7,by kernel_rfl,by kernel_rfl⟩
  · exact ⟨_,takes,Tryd.func8,by kernel_rfl,by kernel_rfl⟩
  · exact ⟨_,takes,Tryd.func9,by kernel_rfl,by kernel_rfl⟩
  · exact ⟨_,takes,Tryd.func36,by kernel_rfl,by kernel_rfl⟩
  · exact ⟨_,takes,Tryd.func10,by kernel_rfl,by kernel_rfl⟩
  · exact ⟨_,takes,Tryd.func12,by kernel_rfl,by kernel_rfl⟩
  · exact ⟨_,takes,Tryd.func13,by kernel_rfl,by kernel_rfl⟩
  · exact ⟨_,takes,Tryd.func14,by kernel_rfl,by kernel_rfl⟩
  · exact ⟨_,takes,Tryd.func17,by kernel_rfl,by kernel_rfl⟩
  · exact ⟨_,takes,Tryd.func18,by kernel_rfl,by kernel_rfl⟩
  · exact ⟨_,takes,Tryd.func19,by kernel_rfl,by kernel_rfl⟩
  · exact ⟨_,takes,Tryd.func20,by kernel_rfl,by kernel_rfl⟩
  · exact ⟨_,takes,Tryd.func49,by kernel_rfl,by kernel_rfl⟩
  · exact ⟨_,takes,Tryd.func48,by kernel_rfl,by kernel_rfl⟩
  · exact ⟨_,takes,Tryd.func23,by kernel_rfl,by kernel_rfl⟩
  · exact ⟨_,takes,Tryd.func27,by kernel_rfl,by kernel_rfl⟩
  · exact ⟨_,takes,Tryd.func28,by kernel_rfl,by kernel_rfl⟩
  · exact ⟨_,takes,Tryd.func29,by kernel_rfl,by kernel_rfl⟩
  · exact ⟨_,takes,Tryd.func30,by kernel_rfl,by kernel_rfl⟩
  · exact ⟨_,takes,Tryd.func34,by kernel_rfl,by kernel_rfl⟩
  · exact ⟨_,takes,Tryd.func37,by kernel_rfl,by kernel_rfl⟩
  · exact ⟨_,takes,Tryd.func38,by kernel_rfl,by kernel_rfl⟩
  · exact ⟨_,takes,Tryd.func39,by kernel_rfl,by kernel_rfl⟩
  · exact ⟨_,takes,Tryd.func40,by kernel_rfl,by kernel_rfl⟩
  · exact ⟨_,takes,Tryd.func61,by kernel_rfl,by kernel_rfl⟩
  · exact ⟨_,takes,Tryd.func50,by kernel_rfl,by kernel_rfl⟩
  · exact ⟨_,takes,Tryd.func51,by kernel_rfl,by kernel_rfl⟩
  · exact ⟨_,takes,Tryd.func52,by kernel_rfl,by kernel_rfl⟩
  · exact ⟨_,takes,Tryd.func62,by kernel_rfl,by kernel_rfl⟩
end Go.Proofs.YtdchnngpjjcchaaDoor
end
section
namespace Go.Proofs.YtdchnngpjjcchaaDoor
open Go Go.Proofs.YtdchnngpjjcchaaDoor.Abs
set_option maxRecDepth 100000
set_option maxHeartbeats 0
def Qi (G:GT)(K:KT)(L:Nat)(x0 x1:AV)(hp0:HP):KR :=
  Ze (SX 6 (AV.ro x0)) fun v1 =>
  MM (hp0 ++ [.cells v1 Zl]) fun h0 =>
  Ze (SX 6 (AV.ro x1)) fun v3 =>
  MM (h0 ++ [.cells v3 Zl]) fun h2 =>
  Ze (ZV h2 6 (.ptr (hp0).length 0)) fun v4 =>
  Y1 (K Ws [v4] h2) fun v5 h6 f7 =>
  Y1 (K YX [(AV.ro v5)] h6) fun v8 h9 f10 =>
  Ze (Zm (AV.ro v8) 0) fun v11 =>
  Ze (Zm (AV.ro v8) 1) fun v12 =>
  MM (h9 ++ [.cells [(.int .i64 0),(.int .i64 0),(.int .i64 0),(.int .i64 0),(.int .i64 0),(.int .i64 0)] Zl]) fun h13 =>
  XR (stV hp0.length 6 (.ptr (h9).length 0) v11 h13 (Zf hp0.length (Zf hp0.length none f7) f10)) fun h14 f15 =>
  Ze (ZV h14 6 (.ptr (hp0).length 0)) fun v16 =>
  Y1 (K YC [v16] h14) fun v17 h18 f19 =>
  Ze (Zb .neq .prim (AV.ro v17) (.int .i64 0)) fun v20 =>
  ifK v20
  (Ze (Zb .eql .prim (AV.ro v5) (.str [])) fun v21 =>
  Ql v21 true
  (Ze (Zb .eql .prim v12 (.int .i64 8)) fun v22 =>
  some (v22,h18,(Zf hp0.length f15 f19)))
  (some (.bool false)) h18 (Zf hp0.length f15 f19) fun v23 h24 f25 =>
  Ql (AV.ro v23) true
  (Y1 (K ZL [] h24) fun v26 h27 f28 =>
  some ((AV.ro v26),h27,(Zf hp0.length f25 f28)))
  (some (.bool false)) h24 f25 fun v29 h30 f31 =>
  some (Y6 false hp0 v29 h30 f31))
  (Ze (ZV h18 6 (.ptr (h9).length 0)) fun v32 =>
  Ze (ZV h18 6 (.ptr (hp0).length 0)) fun v33 =>
  Ze (Zb .neq (.struct [.int,.int,.int,.int,.int,.int]) v32 v33) fun v34 =>
  Ql v34 false
  (Ze (Zb .neq .prim v12 (.int .i64 0)) fun v35 =>
  some (v35,h18,(Zf hp0.length f15 f19)))
  (some (.bool true)) h18 (Zf hp0.length f15 f19) fun v36 h37 f38 =>
  ifK (AV.ro v36)
  (some (Y6 false hp0 (.bool false) h37 f38))
  (Ze (ZV h37 6 (.ptr (h0).length 0)) fun v39 =>
  Y1 (Yo K YC [v39] h37) fun v40 h41 f42 =>
  Ze (Zb .neq .prim (AV.ro v40) (.int .i64 0)) fun v43 =>
  Ql v43 false
  (Ze (ZV h41 6 (.ptr (h0).length 0)) fun v44 =>
  Y1 (Yo K Ws [v44] h41) fun v45 h46 f47 =>
  Ze (Zb .eql .prim (AV.ro v45) (AV.ro v5)) fun v48 =>
  Ze (ZV h46 6 (.ptr (h0).length 0)) fun v49 =>
  Ze (ZV h46 6 (.ptr (hp0).length 0)) fun v50 =>
  Ze (Zb .eql (.struct [.int,.int,.int,.int,.int,.int]) v49 v50) fun v51 =>
  Ze (Zb .eql .bool v48 v51) fun v52 =>
  some (v52,h46,(Zf hp0.length (Zf hp0.length f38 f42) f47)))
  (some (.bool true)) h41 (Zf hp0.length f38 f42) fun v53 h54 f55 =>
  Ql (AV.ro v53) true
  (Y1 (Yo K ZL [] h54) fun v56 h57 f58 =>
  some ((AV.ro v56),h57,(Zf hp0.length f55 f58)))
  (some (.bool false)) h54 f55 fun v59 h60 f61 =>
  some (Y6 false hp0 (AV.ro v59) h60 f61)))
theorem Uj (G:GT)(K:KT)(L:Nat)(x0 x1:AV)(hp0:HP):fnK G K Hf L QZ [x0,x1] hp0=Qi G K L x0 x1 hp0:=by
  kernel_rfl
theorem UQ {C:Cfg}(h:C.T Qe=some QZ){n:Nat}{x0 x1:AV}{hp:HP}{r:AV×HP×Eff}(hr:Qi C.G (Za C n) C.L x0 x1 hp=some r):Za C (n + 1) Qe [x0,x1] hp=some r:=YQ h (Nat.le_of_ble_eq_true rfl) ((Uj ..).trans hr)
def YG (G:GT)(K:KT)(L:Nat)(x0:AV)(hp0:HP):KR :=
  Ze (ZR hp0 .slice (AV.ro x0)) fun v0 =>
  Ze (Zb .gtr .prim v0 (.int .i64 60)) fun v1 =>
  ifK v1
  (Y1 (K ZL [] hp0) fun v2 h3 f4 =>
  some (Y6 false hp0 v2 h3 (Zf hp0.length none f4)))
  (Y1 (K Zg [(AV.ro x0)] hp0) fun v5 h6 f7 =>
  Ze (Zm (AV.ro v5) 0) fun v8 =>
  Ze (Zm (AV.ro v5) 1) fun v9 =>
  Y1 (K X3 [(AV.ro x0)] h6) fun v10 h11 f12 =>
  Ze (Zm (AV.ro v10) 0) fun v13 =>
  Ze (Zm (AV.ro v10) 1) fun v14 =>
  Ze (ZM h11 .ofBytes v8) fun v15 =>
  Ze (ZM h11 .ofBytes v13) fun v16 =>
  Ze (Zb .neq .prim v15 v16) fun v17 =>
  Ql v17 false
  (Ze (Zb .neq .prim v9 v14) fun v18 =>
  some (v18,h11,(Zf hp0.length (Zf hp0.length none f7) f12)))
  (some (.bool true)) h11 (Zf hp0.length (Zf hp0.length none f7) f12) fun v19 h20 f21 =>
  ifK (AV.ro v19)
  (some (Y6 false hp0 (.bool false) h20 f21))
  (Ze (Zb .neq .prim v9 (.int .i64 0)) fun v22 =>
  ifK v22
  (Ze (ZR h20 .slice v8) fun v23 =>
  Ze (Zb .eql .prim v23 (.int .i64 0)) fun v24 =>
  Ql v24 true
  (Y1 (K ZL [] h20) fun v25 h26 f27 =>
  some ((AV.ro v25),h26,(Zf hp0.length f21 f27)))
  (some (.bool false)) h20 f21 fun v28 h29 f30 =>
  some (Y6 false hp0 v28 h29 f30))
  (Y1 (K ZI [v8] h20) fun v31 h32 f33 =>
  Ze (Zm (AV.ro v31) 0) fun v34 =>
  Ze (Zm (AV.ro v31) 1) fun v35 =>
  Ze (Zb .eql .prim v35 (.int .i64 0)) fun v36 =>
  Ql v36 true
  (Y1 (K Xp [(AV.ro x0),v34] h32) fun v37 h38 f39 =>
  some ((AV.ro v37),h38,(Zf hp0.length (Zf hp0.length f21 f33) f39)))
  (some (.bool false)) h32 (Zf hp0.length f21 f33) fun v40 h41 f42 =>
  Ql (AV.ro v40) true
  (Y1 (K ZL [] h41) fun v43 h44 f45 =>
  some ((AV.ro v43),h44,(Zf hp0.length f42 f45)))
  (some (.bool false)) h41 f42 fun v46 h47 f48 =>
  some (Y6 false hp0 v46 h47 f48))))
theorem VZ (G:GT)(K:KT)(L:Nat)(x0:AV)(hp0:HP):fnK G K U5 L Qq [x0] hp0=YG G K L x0 hp0:=by
  kernel_rfl
theorem J7 {C:Cfg}(h:C.T Wq=some Qq){n:Nat}{x0:AV}{hp:HP}{r:AV×HP×Eff}(hr:YG C.G (Za C n) C.L x0 hp=some r):Za C (n + 1) Wq [x0] hp=some r:=YQ h (Nat.le_of_ble_eq_true rfl) ((VZ ..).trans hr)
def YF (G:GT)(K:KT)(L:Nat)(x0:AV)(hp0:HP):KR :=
  Ze (ZR hp0 .slice (AV.ro x0)) fun v0 =>
  Ze (Zb .gtr .prim v0 (.int .i64 500)) fun v1 =>
  ifK v1
  (Y1 (K ZL [] hp0) fun v2 h3 f4 =>
  some (Y6 false hp0 v2 h3 (Zf hp0.length none f4)))
  (Y1 (K ZI [(AV.ro x0)] hp0) fun v5 h6 f7 =>
  Ze (Zm (AV.ro v5) 0) fun v8 =>
  Ze (Zm (AV.ro v5) 1) fun v9 =>
  Y1 (K Vx [(AV.ro x0)] h6) fun v10 h11 f12 =>
  Ze (Zm (AV.ro v10) 0) fun v13 =>
  Ze (Zm (AV.ro v10) 1) fun v14 =>
  Ze (Zb .neq .prim v9 v14) fun v15 =>
  Ql v15 false
  (Y1 (K Xp [v8,v13] h11) fun v16 h17 f18 =>
  Ze (XH .not (AV.ro v16)) fun v19 =>
  some (v19,h17,(Zf hp0.length (Zf hp0.length (Zf hp0.length none f7) f12) f18)))
  (some (.bool true)) h11 (Zf hp0.length (Zf hp0.length none f7) f12) fun v20 h21 f22 =>
  ifK (AV.ro v20)
  (some (Y6 false hp0 (.bool false) h21 f22))
  (Ze (Zb .neq .prim v9 (.int .i64 0)) fun v23 =>
  ifK v23
  (Ze (ZR h21 .slice v8) fun v24 =>
  Ze (Zb .eql .prim v24 (.int .i64 0)) fun v25 =>
  Ql v25 true
  (Y1 (K ZL [] h21) fun v26 h27 f28 =>
  some ((AV.ro v26),h27,(Zf hp0.length f22 f28)))
  (some (.bool false)) h21 f22 fun v29 h30 f31 =>
  some (Y6 false hp0 v29 h30 f31))
  (Y1 (K Zg [v8] h21) fun v32 h33 f34 =>
  Ze (Zm (AV.ro v32) 0) fun v35 =>
  Ze (Zm (AV.ro v32) 1) fun v36 =>
  Ze (Zb .eql .prim v36 (.int .i64 0)) fun v37 =>
  Ql v37 true
  (Ze (ZM h33 .ofBytes v35) fun v38 =>
  Ze (ZM h33 .ofBytes (AV.ro x0)) fun v39 =>
  Ze (Zb .eql .prim v38 v39) fun v40 =>
  some (v40,h33,(Zf hp0.length f22 f34)))
  (some (.bool false)) h33 (Zf hp0.length f22 f34) fun v41 h42 f43 =>
  Ql (AV.ro v41) true
  (Y1 (K ZL [] h42) fun v44 h45 f46 =>
  some ((AV.ro v44),h45,(Zf hp0.length f43 f46)))
  (some (.bool false)) h42 f43 fun v47 h48 f49 =>
  some (Y6 false hp0 v47 h48 f49))))
theorem VY (G:GT)(K:KT)(L:Nat)(x0:AV)(hp0:HP):fnK G K U4 L Qp [x0] hp0=YF G K L x0 hp0:=by
  kernel_rfl
theorem J6 {C:Cfg}(h:C.T Wp=some Qp){n:Nat}{x0:AV}{hp:HP}{r:AV×HP×Eff}(hr:YF C.G (Za C n) C.L x0 hp=some r):Za C (n + 1) Wp [x0] hp=some r:=YQ h (Nat.le_of_ble_eq_true rfl) ((VY ..).trans hr)
def Wx (G:GT)(K:KT)(L:Nat)(x0 x1 x2:AV)(hp0:HP):KR :=
  Y1 (K Zg [(AV.ro x0)] hp0) fun v0 h1 f2 =>
  Ze (Zm (AV.ro v0) 0) fun v3 =>
  Ze (Zm (AV.ro v0) 1) fun v4 =>
  Ze (ZR h1 .slice (AV.ro x0)) fun v5 =>
  Ze (Zb .gtr .prim v5 (.int .i64 60)) fun v6 =>
  Ql v6 false
  (Ze (Zb .neq .prim v4 (.int .i64 0)) fun v7 =>
  some (v7,h1,(Zf hp0.length none f2)))
  (some (.bool true)) h1 (Zf hp0.length none f2) fun v8 h9 f10 =>
  Ql (AV.ro v8) false
  (Ze (ZR h9 .slice v3) fun v11 =>
  Ze (Zb .eql .prim v11 (.int .i64 0)) fun v12 =>
  some (v12,h9,f10))
  (some (.bool true)) h9 f10 fun v13 h14 f15 =>
  Ql (AV.ro v13) false
  (Ze (ZR h14 .slice (AV.ro x2)) fun v16 =>
  Ze (Zb .gtr .prim v16 (.int .i64 100)) fun v17 =>
  some (v17,h14,f15))
  (some (.bool true)) h14 f15 fun v18 h19 f20 =>
  ifK (AV.ro v18)
  (Y1 (K ZL [] h19) fun v21 h22 f23 =>
  some (Y6 false hp0 v21 h22 (Zf hp0.length f20 f23)))
  (Ze (ZM h19 (.int .i64) (AV.ro x1)) fun v24 =>
  Ze (ZR h19 .slice v3) fun v25 =>
  Ze (Zb .rem .prim v24 v25) fun v26 =>
  Ze (WH (.slice 1) v3 none (some v26)) fun v27 =>
  Y1 (K ZI [v27] h19) fun v28 h29 f30 =>
  Ze (Zm (AV.ro v28) 0) fun v31 =>
  Ze (Zm (AV.ro v28) 1) fun v32 =>
  Ze (Zb .neq .prim v32 (.int .i64 7)) fun v33 =>
  Ql v33 false
  (Ze (ZR h29 .slice v31) fun v34 =>
  Ze (Zb .neq .prim v34 (.int .i64 0)) fun v35 =>
  some (v35,h29,(Zf hp0.length f20 f30)))
  (some (.bool true)) h29 (Zf hp0.length f20 f30) fun v36 h37 f38 =>
  ifK (AV.ro v36)
  (some (Y6 false hp0 (.bool false) h37 f38))
  (XR (Tz WE 1 [] h37) fun v39 h40 =>
  Ze (MQ 1 1 v39 v3 h40) fun v41 =>
  Ze (MQ 1 1 v41 (AV.ro x2) h40) fun v42 =>
  Y1 (K ZI [(AV.ro v42)] h40) fun v43 h44 f45 =>
  Ze (Zm (AV.ro v43) 0) fun v46 =>
  Ze (Zm (AV.ro v43) 1) fun v47 =>
  Ze (ZR h44 .slice (AV.ro x2)) fun v48 =>
  Ze (Zb .eql .prim v48 (.int .i64 0)) fun v49 =>
  Ql v49 true
  (Ze (Zb .eql .prim v47 (.int .i64 0)) fun v50 =>
  some (v50,h44,(Zf hp0.length f38 f45)))
  (some (.bool false)) h44 (Zf hp0.length f38 f45) fun v51 h52 f53 =>
  Ql (AV.ro v51) false
  (Ze (Zb .eql .prim v47 (.int .i64 8)) fun v54 =>
  Ql v54 true
  (Ze (ZR h52 .slice v46) fun v55 =>
  Ze (Zb .eql .prim v55 (.int .i64 0)) fun v56 =>
  some (v56,h52,f53))
  (some (.bool false)) h52 f53 fun v57 h58 f59 =>
  some ((AV.ro v57),h58,f59))
  (some (.bool true)) h52 f53 fun v60 h61 f62 =>
  Ql (AV.ro v60) true
  (Y1 (K ZL [] h61) fun v63 h64 f65 =>
  some ((AV.ro v63),h64,(Zf hp0.length f62 f65)))
  (some (.bool false)) h61 f62 fun v66 h67 f68 =>
  some (Y6 false hp0 v66 h67 f68)))
theorem Uk (G:GT)(K:KT)(L:Nat)(x0 x1 x2:AV)(hp0:HP):fnK G K Hg L Xa [x0,x1,x2] hp0=Wx G K L x0 x1 x2 hp0:=by
  kernel_rfl
theorem UR {C:Cfg}(h:C.T Qg=some Xa){n:Nat}{x0 x1 x2:AV}{hp:HP}{r:AV×HP×Eff}(hr:Wx C.G (Za C n) C.L x0 x1 x2 hp=some r):Za C (n + 1) Qg [x0,x1,x2] hp=some r:=YQ h (Nat.le_of_ble_eq_true rfl) ((Uk ..).trans hr)
def Yg (G:GT)(K:KT)(L:Nat)(hp0:HP)(x0:AV)(x3:AV)(hp:HP)(ef:Eff):KR :=
  Y1 (K Zg [x3] hp) fun v18 h19 f20 =>
  Ze (Zm (AV.ro v18) 0) fun v21 =>
  Ze (Zm (AV.ro v18) 1) fun v22 =>
  Ze (Zb .gtr .prim x0 (.int .i64 50000)) fun v23 =>
  ifK v23
  (Ze (Zb .eql .prim v22 (.int .i64 6)) fun v24 =>
  Ql v24 true
  (Ze (ZR h19 .slice v21) fun v25 =>
  Ze (Zb .eql .prim v25 (.int .i64 0)) fun v26 =>
  some (v26,h19,(Zf hp0.length ef f20)))
  (some (.bool false)) h19 (Zf hp0.length ef f20) fun v27 h28 f29 =>
  Ql (AV.ro v27) true
  (Y1 (K ZL [] h28) fun v30 h31 f32 =>
  some ((AV.ro v30),h31,(Zf hp0.length f29 f32)))
  (some (.bool false)) h28 f29 fun v33 h34 f35 =>
  some (Y6 false hp0 v33 h34 f35))
  (Y1 (K ZI [v21] h19) fun v36 h37 f38 =>
  Ze (Zm (AV.ro v36) 0) fun v39 =>
  Ze (Zm (AV.ro v36) 1) fun v40 =>
  Ze (Zb .eql .prim v22 (.int .i64 0)) fun v41 =>
  Ql v41 true
  (Ze (Zb .eql .prim v40 (.int .i64 0)) fun v42 =>
  some (v42,h37,(Zf hp0.length (Zf hp0.length ef f20) f38)))
  (some (.bool false)) h37 (Zf hp0.length (Zf hp0.length ef f20) f38) fun v43 h44 f45 =>
  Ql (AV.ro v43) true
  (Y1 (K Xp [x3,v39] h44) fun v46 h47 f48 =>
  some ((AV.ro v46),h47,(Zf hp0.length f45 f48)))
  (some (.bool false)) h44 f45 fun v49 h50 f51 =>
  Ql (AV.ro v49) true
  (Y1 (K ZL [] h50) fun v52 h53 f54 =>
  some ((AV.ro v52),h53,(Zf hp0.length f51 f54)))
  (some (.bool false)) h50 f51 fun v55 h56 f57 =>
  some (Y6 false hp0 v55 h56 f57))
theorem Ja (G:GT)(K:KT)(L:Nat)(hp0:HP)   : ZF G 73 hp0.length K ZB L X5 (YU ZB ZP hp0) (YU ZB ZP hp0) []=fun e hp ef=>Yg G K L hp0  (e 0).rd (e 3).rd hp ef:=by
  kernel_rfl
def ZT (G:GT)(K:KT)(L:Nat)(hp0:HP)(k0:AV→AV→HP→Eff→KR):Nat→AV→AV→AV→HP→Eff→KR
  | 0,_,_,_,_,_=>none
  | m + 1,x0,x3,x4,hp,ef =>
    Ze (Zb .lss .prim x4 x0) fun v58 =>
    ifK v58
    (Ze (fill [(.int .i64 0),(.int .i64 0),(.int .i64 0),(.int .i64 0),(.int .i64 0),(.int .i64 0)] [(0,1,AV.nm x4),(2,1,AV.nm (.int .i64 16)),(5,1,AV.nm x4)]) fun v59 =>
    Ze (ZZ (.slice 6) x3 x4) fun v60 =>
    XR (stV hp0.length 6 v60 (.agg v59) hp ef) fun h61 f62 =>
    Ze (Zb .add .prim x4 (.int .i64 1)) fun v63 =>
    ZT G K L hp0 k0 m x0 x3 v63 h61 f62)
    (k0 x0 x3 hp ef)
theorem Jc (G:GT)(K:KT)(L:Nat)(hp0:HP)(k0:AV→AV→HP→Eff→KR)  : ∀ m,QH (fun n'=>ZF G 73 hp0.length K ZB L Qc n' (YU ZB ZP hp0) [(0,(fun e hp ef=>k0 (e 0).rd (e 3).rd hp ef))]) m=fun e hp ef=>ZT G K L hp0 k0 m (e 0).rd (e 3).rd (e 4).rd hp ef:=by
  intro m
  induction m with
  | zero=>rfl
  | succ m ih =>
    show ZF G 73 hp0.length K ZB L Qc (QH _ m) (YU ZB ZP hp0) [(0,(fun e hp ef=>k0 (e 0).rd (e 3).rd hp ef))]=_
    rw [ih]
    kernel_rfl
theorem Jb (G:GT)(K:KT)(L:Nat)(hp0:HP)(k0:AV→AV→HP→Eff→KR)(zn:XD):ZF G 73 hp0.length K ZB L X6 zn (YU ZB ZP hp0) [(0,(fun e hp ef=>k0 (e 0).rd (e 3).rd hp ef))]=fun e hp ef=>ZT G K L hp0 k0 L (e 0).rd (e 3).rd (e 4).rd hp ef:=Jc G K L hp0 k0  L
def Wy (G:GT)(K:KT)(L:Nat)(x0:AV)(hp0:HP):KR :=
  Ze (Zb .lss .prim (AV.ro x0) (.int .i64 0)) fun v0 =>
  Ql v0 false
  (Ze (Zb .gtr .prim (AV.ro x0) (.int .i64 100)) fun v1 =>
  Ql v1 true
  (Ze (Zb .lss .prim (AV.ro x0) (.int .i64 49998)) fun v2 =>
  some (v2,hp0,none))
  (some (.bool false)) hp0 none fun v3 h4 f5 =>
  some ((AV.ro v3),h4,f5))
  (some (.bool true)) hp0 none fun v6 h7 f8 =>
  Ql (AV.ro v6) false
  (Ze (Zb .gtr .prim (AV.ro x0) (.int .i64 50002)) fun v9 =>
  some (v9,h7,f8))
  (some (.bool true)) h7 f8 fun v10 h11 f12 =>
  ifK (AV.ro v10)
  (Y1 (K ZL [] h11) fun v13 h14 f15 =>
  some (Y6 false hp0 v13 h14 (Zf hp0.length f12 f15)))
  (XR (PD Zl [(.int .i64 0),(.int .i64 0),(.int .i64 0),(.int .i64 0),(.int .i64 0),(.int .i64 0)] (AV.ro x0) h11) fun v16 h17 =>
  ZT G K L hp0 (Yg G K L hp0) L (AV.ro x0) v16 (.int .i64 0) h17 f12)
theorem Ul (G:GT)(K:KT)(L:Nat)(x0:AV)(hp0:HP):fnK G K ZB L ZP [x0] hp0=Wy G K L x0 hp0:=by
  show ZF G 73 hp0.length K ZB L Xd (YU ZB ZP hp0) (YU ZB ZP hp0) [] (RZ [x0]) hp0 none=_
  simp only [Xd,Wh,Yq,Yr,Y8]
  rw [Ja G K L hp0  ,Jb G K L hp0 (Yg G K L hp0)  _]
  kernel_rfl
theorem UT {C:Cfg}(h:C.T Qh=some ZP){n:Nat}{x0:AV}{hp:HP}{r:AV×HP×Eff}(hr:Wy C.G (Za C n) C.L x0 hp=some r):Za C (n + 1) Qh [x0] hp=some r:=YQ h (Nat.le_of_ble_eq_true rfl) ((Ul ..).trans hr)
def Jy (G:GT)(K:KT)(L:Nat)(hp0:HP):KR :=
  Ze (fill [(.int .i64 0),(.int .i64 0),(.int .i64 0),(.int .i64 0),(.int .i64 0),(.int .i64 0)] [(0,1,AV.nm (.int .i64 1)),(2,1,AV.nm (.int .i64 1))]) fun v0 =>
  XR (Tz Zl 6 [(.agg v0)] hp0) fun v1 h2 =>
  Y1 (K Zg [(AV.ro v1)] h2) fun v3 h4 f5 =>
  Ze (Zm (AV.ro v3) 0) fun v6 =>
  Ze (Zm (AV.ro v3) 1) fun v7 =>
  Y1 (K Zg [(.own 6 [])] h4) fun v8 h9 f10 =>
  Ze (Zm (AV.ro v8) 0) fun v11 =>
  Ze (Zm (AV.ro v8) 1) fun v12 =>
  Y1 (K YX [(.str [49,48,32,48,32,104,111,108,100,32,51,32,48,32,53])] h9) fun v13 h14 f15 =>
  Ze (Zm (AV.ro v13) 0) fun v16 =>
  Ze (Zm (AV.ro v13) 1) fun v17 =>
  MM (h14 ++ [.cells [(.int .i64 0),(.int .i64 0),(.int .i64 0),(.int .i64 0),(.int .i64 0),(.int .i64 0)] Zl]) fun h18 =>
  XR (stV hp0.length 6 (.ptr (h14).length 0) v16 h18 (Zf hp0.length (Zf hp0.length (Zf hp0.length none f5) f10) f15)) fun h19 f20 =>
  Y1 (K YX [(.str [49,32,48,32,98,101,103,105,110,32,48,32,48,32,48,48])] h19) fun v21 h22 f23 =>
  Ze (Zm (AV.ro v21) 0) fun v24 =>
  Ze (Zm (AV.ro v21) 1) fun v25 =>
  MM (h22 ++ [.cells [(.int .i64 0),(.int .i64 0),(.int .i64 0),(.int .i64 0),(.int .i64 0),(.int .i64 0)] Zl]) fun h26 =>
  XR (stV hp0.length 6 (.ptr (h22).length 0) v24 h26 (Zf hp0.length f20 f23)) fun h27 f28 =>
  Y1 (K ZI [v6] h27) fun v29 h30 f31 =>
  Ze (Zm (AV.ro v29) 0) fun v32 =>
  Ze (Zm (AV.ro v29) 1) fun v33 =>
  Ze (Zb .eql .prim v7 (.int .i64 0)) fun v34 =>
  Ql v34 true
  (Ze (ZM h30 .ofBytes v6) fun v35 =>
  Ze (Zb .eql .prim v35 (.str [2,2,0,2,0,0,0])) fun v36 =>
  some (v36,h30,(Zf hp0.length f28 f31)))
  (some (.bool false)) h30 (Zf hp0.length f28 f31) fun v37 h38 f39 =>
  Ql (AV.ro v37) true
  (Ze (Zb .eql .prim v12 (.int .i64 0)) fun v40 =>
  some (v40,h38,f39))
  (some (.bool false)) h38 f39 fun v41 h42 f43 =>
  Ql (AV.ro v41) true
  (Ze (ZM h42 .ofBytes v11) fun v44 =>
  Ze (Zb .eql .prim v44 (.str [0])) fun v45 =>
  some (v45,h42,f43))
  (some (.bool false)) h42 f43 fun v46 h47 f48 =>
  Ql (AV.ro v46) true
  (Ze (ZV h47 6 (.ptr (h14).length 0)) fun v49 =>
  Ze (fill [(.int .i64 0),(.int .i64 0),(.int .i64 0),(.int .i64 0),(.int .i64 0),(.int .i64 0)] [(0,1,AV.nm (.int .i64 10)),(2,1,AV.nm (.int .i64 3)),(3,1,AV.nm (.int .i64 3)),(5,1,AV.nm (.int .i64 5))]) fun v50 =>
  Ze (Zb .eql (.struct [.int,.int,.int,.int,.int,.int]) v49 (.agg v50)) fun v51 =>
  some (v51,h47,f48))
  (some (.bool false)) h47 f48 fun v52 h53 f54 =>
  Ql (AV.ro v52) true
  (Ze (Zb .eql .prim v17 (.int .i64 0)) fun v55 =>
  some (v55,h53,f54))
  (some (.bool false)) h53 f54 fun v56 h57 f58 =>
  Ql (AV.ro v56) true
  (Ze (ZV h57 6 (.ptr (h14).length 0)) fun v59 =>
  Y1 (K Ws [v59] h57) fun v60 h61 f62 =>
  Ze (Zb .eql .prim (AV.ro v60) (.str [49,48,32,48,32,104,111,108,100,32,51,32,48,32,53])) fun v63 =>
  some (v63,h61,(Zf hp0.length f58 f62)))
  (some (.bool false)) h57 f58 fun v64 h65 f66 =>
  Ql (AV.ro v64) true
  (Ze (Zb .eql .prim v25 (.int .i64 8)) fun v67 =>
  some (v67,h65,f66))
  (some (.bool false)) h65 f66 fun v68 h69 f70 =>
  Ql (AV.ro v68) true
  (Ze (Zb .eql .prim v33 (.int .i64 0)) fun v71 =>
  some (v71,h69,f70))
  (some (.bool false)) h69 f70 fun v72 h73 f74 =>
  Ql (AV.ro v72) true
  (Ze (ZR h73 .slice v32) fun v75 =>
  Ze (Zb .eql .prim v75 (.int .i64 1)) fun v76 =>
  some (v76,h73,f74))
  (some (.bool false)) h73 f74 fun v77 h78 f79 =>
  Ql (AV.ro v77) true
  (Ze (fill [(.int .i64 0),(.int .i64 0),(.int .i64 0),(.int .i64 0),(.int .i64 0),(.int .i64 0)] []) fun v80 =>
  Y1 (K YC [(.agg v80)] h78) fun v81 h82 f83 =>
  Ze (Zb .eql .prim (AV.ro v81) (.int .i64 1)) fun v84 =>
  some (v84,h82,(Zf hp0.length f79 f83)))
  (some (.bool false)) h78 f79 fun v85 h86 f87 =>
  some (Y6 false hp0 v85 h86 f87)
theorem IU (G:GT)(K:KT)(L:Nat)(hp0:HP):fnK G K BV L Jq [] hp0=Jy G K L  hp0:=by
  kernel_rfl
theorem Tu {C:Cfg}(h:C.T ZL=some Jq){n:Nat}{hp:HP}{r:AV×HP×Eff}(hr:Jy C.G (Za C n) C.L  hp=some r):Za C (n + 1) ZL [] hp=some r:=YQ h (Nat.le_of_ble_eq_true rfl) ((IU ..).trans hr)
def VO (G:GT)(K:KT)(L:Nat)(x0 x1:AV)(hp0:HP):KR :=
  Y1 (K QW [(AV.ro x1)] hp0) fun v0 h1 f2 =>
  Y1 (K Xx [(AV.ro x0),(AV.ro v0)] h1) fun v3 h4 f5 =>
  some (Y6 false hp0 v3 h4 (Zf hp0.length (Zf hp0.length none f2) f5))
theorem HY (G:GT)(K:KT)(L:Nat)(x0 x1:AV)(hp0:HP):fnK G K Lc L VI [x0,x1] hp0=VO G K L x0 x1 hp0:=by
  kernel_rfl
theorem IM {C:Cfg}(h:C.T VE=some VI){n:Nat}{x0 x1:AV}{hp:HP}{r:AV×HP×Eff}(hr:VO C.G (Za C n) C.L x0 x1 hp=some r):Za C (n + 1) VE [x0,x1] hp=some r:=YQ h (Nat.le_of_ble_eq_true rfl) ((HY ..).trans hr)
def Y9 (G:GT)(K:KT)(L:Nat)(hp0:HP)(x0:AV)(x2:AV)(y2:AV)(x4:AV)(x5:AV)(hp:HP)(ef:Eff):KR :=
  Ze (ZZ (.arr 6 1) x5 (.int .i64 0)) fun v11 =>
  Ze (Zt hp v11) fun v12 =>
  Ze (ZZ (.arr 6 1) x5 (.int .i64 1)) fun v13 =>
  Ze (Zt hp v13) fun v14 =>
  Ze ((G 0).map AV.ref) fun g15 =>
  Ze (Zt hp g15) fun v16 =>
  Ze (ZZ (.slice 1) x4 (.int .i64 2)) fun v17 =>
  Ze (Zt hp v17) fun v18 =>
  Y1 (ZX K Yj [v16,v18] hp) fun v19 h20 f21 =>
  Ze (Zb .add .prim (.int .i64 1) (AV.ro v19)) fun v22 =>
  Ze (ZZ (.arr 6 1) x5 (.int .i64 3)) fun v23 =>
  Ze (Zt h20 v23) fun v24 =>
  Ze (ZZ (.arr 6 1) x5 (.int .i64 4)) fun v25 =>
  Ze (Zt h20 v25) fun v26 =>
  Ze (ZZ (.arr 6 1) x5 (.int .i64 5)) fun v27 =>
  Ze (Zt h20 v27) fun v28 =>
  Ze (fill [(.int .i64 0),(.int .i64 0),(.int .i64 0),(.int .i64 0),(.int .i64 0),(.int .i64 0)] [(0,1,AV.nm v12),(1,1,AV.nm v14),(2,1,AV.nm v22),(3,1,AV.nm v24),(4,1,AV.nm v26),(5,1,AV.nm v28)]) fun v29 =>
  MM (h20 ++ [.cells [(.int .i64 0),(.int .i64 0),(.int .i64 0),(.int .i64 0),(.int .i64 0),(.int .i64 0)] Zl]) fun h30 =>
  XR (stV hp0.length 6 (.ptr (h20).length 0) (.agg v29) h30 (Zf hp0.length ef f21)) fun h31 f32 =>
  Ze (ZV h31 6 (.ptr (h20).length 0)) fun v33 =>
  Y1 (K Ws [v33] h31) fun v34 h35 f36 =>
  Ze (Zb .neq .prim (AV.ro v34) x0) fun v37 =>
  ifK v37
  (Ze (fill [(.int .i64 0),(.int .i64 0),(.int .i64 0),(.int .i64 0),(.int .i64 0),(.int .i64 0)] []) fun v38 =>
  XR (stV hp0.length 6 x2 (.agg v38) h35 (Zf hp0.length f32 f36)) fun h39 f40 =>
  Ze (ZV h39 6 y2) fun v41 =>
  some (Y6 false hp0 (.tup [(AV.nm v41),(AV.nm (.int .i64 8))]) h39 f40))
  (Ze (ZV h35 6 (.ptr (h20).length 0)) fun v42 =>
  XR (stV hp0.length 6 x2 v42 h35 (Zf hp0.length f32 f36)) fun h43 f44 =>
  Ze (ZV h43 6 y2) fun v45 =>
  some (Y6 false hp0 (.tup [(AV.nm v45),(AV.nm (.int .i64 0))]) h43 f44))
theorem UM (G:GT)(K:KT)(L:Nat)(hp0:HP)   : ZF G 53 hp0.length K ZY L VW (YU ZY Y0 hp0) (YU ZY Y0 hp0) []=fun e hp ef=>Y9 G K L hp0  (e 0).rd (e 2).rd (e 2).val (e 4).rd (e 5).rd hp ef:=by
  kernel_rfl
def Yt (G:GT)(K:KT)(L:Nat)(hp0:HP)(k0:AV→AV→AV→AV→AV→HP→Eff→KR):Nat→AV→AV→AV→AV→AV→AV→AV→AV→HP→Eff→KR
  | 0,_,_,_,_,_,_,_,_,_,_=>none
  | m + 1,x0,x2,y2,x4,x5,x15,x16,x17,hp,ef =>
    Ze (Zb .lss .prim x17 x16) fun v47 =>
    ifK v47
    (Ze (ZZ (.slice 1) x15 x17) fun v48 =>
    Ze (Zt hp v48) fun v49 =>
    Y1 (K Kz [v49] hp) fun v50 h51 f52 =>
    Ze (Zm (AV.ro v50) 0) fun v53 =>
    Ze (Zm (AV.ro v50) 1) fun v54 =>
    Ze (ZZ (.arr 6 1) x5 x17) fun v55 =>
    XR (Lt hp0.length v55 v53 h51 (Zf hp0.length ef f52)) fun h56 f57 =>
    Ze (Zb .add .prim x17 (.int .i64 1)) fun v58 =>
    Yt G K L hp0 k0 m x0 x2 y2 x4 x5 x15 x16 v58 h56 f57)
    (k0 x0 x2 y2 x4 x5 hp ef)
theorem UO (G:GT)(K:KT)(L:Nat)(hp0:HP)(k0:AV→AV→AV→AV→AV→HP→Eff→KR)  : ∀ m,QH (fun n'=>ZF G 53 hp0.length K ZY L Xe n' (YU ZY Y0 hp0) [(0,(fun e hp ef=>k0 (e 0).rd (e 2).rd (e 2).val (e 4).rd (e 5).rd hp ef))]) m=fun e hp ef=>Yt G K L hp0 k0 m (e 0).rd (e 2).rd (e 2).val (e 4).rd (e 5).rd (e 15).rd (e 16).rd (e 17).rd hp ef:=by
  intro m
  induction m with
  | zero=>rfl
  | succ m ih =>
    show ZF G 53 hp0.length K ZY L Xe (QH _ m) (YU ZY Y0 hp0) [(0,(fun e hp ef=>k0 (e 0).rd (e 2).rd (e 2).val (e 4).rd (e 5).rd hp ef))]=_
    rw [ih]
    kernel_rfl
theorem UN (G:GT)(K:KT)(L:Nat)(hp0:HP)(k0:AV→AV→AV→AV→AV→HP→Eff→KR)(zn:XD):ZF G 53 hp0.length K ZY L VX zn (YU ZY Y0 hp0) [(0,(fun e hp ef=>k0 (e 0).rd (e 2).rd (e 2).val (e 4).rd (e 5).rd hp ef))]=fun e hp ef=>Yt G K L hp0 k0 L (e 0).rd (e 2).rd (e 2).val (e 4).rd (e 5).rd (e 15).rd (e 16).rd (e 17).rd hp ef:=UO G K L hp0 k0  L
def QD (G:GT)(K:KT)(L:Nat)(x0:AV)(hp0:HP):KR :=
  MM (hp0 ++ [.cells [(.int .i64 0),(.int .i64 0),(.int .i64 0),(.int .i64 0),(.int .i64 0),(.int .i64 0)] Zl]) fun h0 =>
  Y1 (K XY [(AV.ro x0),(.str [32])] h0) fun v1 h2 f3 =>
  Ze (ZR h2 .slice (AV.ro v1)) fun v4 =>
  Ze (Zb .neq .prim v4 (.int .i64 6)) fun v5 =>
  ifK v5
  (Ze (fill [(.int .i64 0),(.int .i64 0),(.int .i64 0),(.int .i64 0),(.int .i64 0),(.int .i64 0)] []) fun v6 =>
  XR (stV hp0.length 6 (.ptr (hp0).length 0) (.agg v6) h2 (Zf hp0.length none f3)) fun h7 f8 =>
  Ze (ZV h7 6 (.ptr (hp0).length 0)) fun v9 =>
  some (Y6 false hp0 (.tup [(AV.nm v9),(AV.nm (.int .i64 8))]) h7 f8))
  (MM (h2 ++ [.cells [(.int .i64 0),(.int .i64 0),(.int .i64 0),(.int .i64 0),(.int .i64 0),(.int .i64 0)] WZ]) fun h10 =>
  Ze (ZR h10 .slice (AV.ro v1)) fun v46 =>
  Yt G K L hp0 (Y9 G K L hp0) L (AV.ro x0) (.ptr (hp0).length 0) (.ptr (hp0).length 0) (AV.ro v1) (.ptr (h2).length 0) (AV.ro v1) v46 (.int .i64 0) h10 (Zf hp0.length none f3))
theorem Ie (G:GT)(K:KT)(L:Nat)(x0:AV)(hp0:HP):fnK G K ZY L Y0 [x0] hp0=QD G K L x0 hp0:=by
  show ZF G 53 hp0.length K ZY L VN (YU ZY Y0 hp0) (YU ZY Y0 hp0) [] (RZ [x0]) hp0 none=_
  simp only [VN,Wh,Yq,Yr,Y8]
  rw [UM G K L hp0  ,UN G K L hp0 (Y9 G K L hp0)  _]
  kernel_rfl
theorem Ob {C:Cfg}(h:C.T YX=some Y0){n:Nat}{x0:AV}{hp:HP}{r:AV×HP×Eff}(hr:QD C.G (Za C n) C.L x0 hp=some r):Za C (n + 1) YX [x0] hp=some r:=YQ h (Nat.le_of_ble_eq_true rfl) ((Ie ..).trans hr)
def Xz (G:GT)(K:KT)(L:Nat)(x0:AV)(hp0:HP):KR :=
  Ze (SX 6 (AV.ro x0)) fun v1 =>
  MM (hp0 ++ [.cells v1 Zl]) fun h0 =>
  Ze (Yh 2 (.ptr (hp0).length 0)) fun v2 =>
  Ze (Zt h0 v2) fun v3 =>
  Ze (Zb .lss .prim v3 (.int .i64 1)) fun v4 =>
  Ql v4 false
  (Ze (Yh 2 (.ptr (hp0).length 0)) fun v5 =>
  Ze (Zt h0 v5) fun v6 =>
  Ze (Zb .gtr .prim v6 (.int .i64 18)) fun v7 =>
  some (v7,h0,none))
  (some (.bool true)) h0 none fun v8 h9 f10 =>
  ifK (AV.ro v8)
  (some (Y6 false hp0 (.int .i64 1) h9 f10))
  (Ze (Yh 0 (.ptr (hp0).length 0)) fun v11 =>
  Ze (Zt h9 v11) fun v12 =>
  Y1 (K We [v12,(.int .i64 1000000000)] h9) fun v13 h14 f15 =>
  Ze (XH .not (AV.ro v13)) fun v16 =>
  ifK v16
  (ifK v16
  (some (Y6 false hp0 (.int .i64 2) h14 (Zf hp0.length f10 f15)))
  (some (Y6 false hp0 (.int .i64 0) h14 (Zf hp0.length f10 f15))))
  (Ze (Yh 1 (.ptr (hp0).length 0)) fun v17 =>
  Ze (Zt h14 v17) fun v18 =>
  Y1 (K We [v18,(.int .i64 15)] h14) fun v19 h20 f21 =>
  Ze (XH .not (AV.ro v19)) fun v22 =>
  ifK v22
  (ifK v22
  (some (Y6 false hp0 (.int .i64 2) h20 (Zf hp0.length (Zf hp0.length f10 f15) f21)))
  (some (Y6 false hp0 (.int .i64 0) h20 (Zf hp0.length (Zf hp0.length f10 f15) f21))))
  (Ze (Yh 3 (.ptr (hp0).length 0)) fun v23 =>
  Ze (Zt h20 v23) fun v24 =>
  Y1 (K We [v24,(.int .i64 1000000000000)] h20) fun v25 h26 f27 =>
  Ze (XH .not (AV.ro v25)) fun v28 =>
  ifK v28
  (ifK v28
  (some (Y6 false hp0 (.int .i64 2) h26 (Zf hp0.length (Zf hp0.length (Zf hp0.length f10 f15) f21) f27)))
  (some (Y6 false hp0 (.int .i64 0) h26 (Zf hp0.length (Zf hp0.length (Zf hp0.length f10 f15) f21) f27))))
  (Ze (Yh 4 (.ptr (hp0).length 0)) fun v29 =>
  Ze (Zt h26 v29) fun v30 =>
  Y1 (K We [v30,(.int .i64 63)] h26) fun v31 h32 f33 =>
  Ze (XH .not (AV.ro v31)) fun v34 =>
  ifK v34
  (ifK v34
  (some (Y6 false hp0 (.int .i64 2) h32 (Zf hp0.length (Zf hp0.length (Zf hp0.length (Zf hp0.length f10 f15) f21) f27) f33)))
  (some (Y6 false hp0 (.int .i64 0) h32 (Zf hp0.length (Zf hp0.length (Zf hp0.length (Zf hp0.length f10 f15) f21) f27) f33))))
  (Ze (Yh 5 (.ptr (hp0).length 0)) fun v35 =>
  Ze (Zt h32 v35) fun v36 =>
  Y1 (K Oc [v36] h32) fun v37 h38 f39 =>
  Ze (XH .not (AV.ro v37)) fun v40 =>
  ifK v40
  (some (Y6 false hp0 (.int .i64 2) h38 (Zf hp0.length (Zf hp0.length (Zf hp0.length (Zf hp0.length (Zf hp0.length f10 f15) f21) f27) f33) f39)))
  (some (Y6 false hp0 (.int .i64 0) h38 (Zf hp0.length (Zf hp0.length (Zf hp0.length (Zf hp0.length (Zf hp0.length f10 f15) f21) f27) f33) f39))))))))
theorem Ic (G:GT)(K:KT)(L:Nat)(x0:AV)(hp0:HP):fnK G K Lh L VL [x0] hp0=Xz G K L x0 hp0:=by
  kernel_rfl
theorem Oa {C:Cfg}(h:C.T YC=some VL){n:Nat}{x0:AV}{hp:HP}{r:AV×HP×Eff}(hr:Xz C.G (Za C n) C.L x0 hp=some r):Za C (n + 1) YC [x0] hp=some r:=YQ h (Nat.le_of_ble_eq_true rfl) ((Ic ..).trans hr)
def J3 (G:GT)(K:KT)(L:Nat)(x0:AV)(hp0:HP):KR :=
  Ze (SX 6 (AV.ro x0)) fun v1 =>
  MM (hp0 ++ [.cells v1 Zl]) fun h0 =>
  Ze (Yh 2 (.ptr (hp0).length 0)) fun v2 =>
  Ze (Zt h0 v2) fun v3 =>
  Ze (Zb .lss .prim v3 (.int .i64 1)) fun v4 =>
  Ql v4 false
  (Ze (Yh 2 (.ptr (hp0).length 0)) fun v5 =>
  Ze (Zt h0 v5) fun v6 =>
  Ze (Zb .gtr .prim v6 (.int .i64 18)) fun v7 =>
  some (v7,h0,none))
  (some (.bool true)) h0 none fun v8 h9 f10 =>
  ifK (AV.ro v8)
  (some (Y6 false hp0 (.int .i64 1) h9 f10))
  (Ze (Yh 0 (.ptr (hp0).length 0)) fun v11 =>
  Ze (Zt h9 v11) fun v12 =>
  Y1 (K Qn [v12,(.int .i64 1000000000)] h9) fun v13 h14 f15 =>
  Ze (XH .not (AV.ro v13)) fun v16 =>
  Ql v16 false
  (Ze (Yh 1 (.ptr (hp0).length 0)) fun v17 =>
  Ze (Zt h14 v17) fun v18 =>
  Y1 (K Qn [v18,(.int .i64 15)] h14) fun v19 h20 f21 =>
  Ze (XH .not (AV.ro v19)) fun v22 =>
  some (v22,h20,(Zf hp0.length (Zf hp0.length f10 f15) f21)))
  (some (.bool true)) h14 (Zf hp0.length f10 f15) fun v23 h24 f25 =>
  Ql (AV.ro v23) false
  (Ze (Yh 3 (.ptr (hp0).length 0)) fun v26 =>
  Ze (Zt h24 v26) fun v27 =>
  Y1 (K Qn [v27,(.int .i64 1000000000000)] h24) fun v28 h29 f30 =>
  Ze (XH .not (AV.ro v28)) fun v31 =>
  some (v31,h29,(Zf hp0.length f25 f30)))
  (some (.bool true)) h24 f25 fun v32 h33 f34 =>
  Ql (AV.ro v32) false
  (Ze (Yh 4 (.ptr (hp0).length 0)) fun v35 =>
  Ze (Zt h33 v35) fun v36 =>
  Y1 (K Qn [v36,(.int .i64 63)] h33) fun v37 h38 f39 =>
  Ze (XH .not (AV.ro v37)) fun v40 =>
  some (v40,h38,(Zf hp0.length f34 f39)))
  (some (.bool true)) h33 f34 fun v41 h42 f43 =>
  Ql (AV.ro v41) false
  (Ze (Yh 5 (.ptr (hp0).length 0)) fun v44 =>
  Ze (Zt h42 v44) fun v45 =>
  Y1 (K Oe [v45] h42) fun v46 h47 f48 =>
  Ze (XH .not (AV.ro v46)) fun v49 =>
  some (v49,h47,(Zf hp0.length f43 f48)))
  (some (.bool true)) h42 f43 fun v50 h51 f52 =>
  ifK (AV.ro v50)
  (some (Y6 false hp0 (.int .i64 2) h51 f52))
  (some (Y6 false hp0 (.int .i64 0) h51 f52)))
theorem La (G:GT)(K:KT)(L:Nat)(x0:AV)(hp0:HP):fnK G K Sm L KA [x0] hp0=J3 G K L x0 hp0:=by
  kernel_rfl
theorem Dh {C:Cfg}(h:C.T Jn=some KA){n:Nat}{x0:AV}{hp:HP}{r:AV×HP×Eff}(hr:J3 C.G (Za C n) C.L x0 hp=some r):Za C (n + 1) Jn [x0] hp=some r:=YQ h (Nat.le_of_ble_eq_true rfl) ((La ..).trans hr)
def XO (G:GT)(K:KT)(L:Nat)(x0:AV)(hp0:HP):KR :=
  Ze (SX 6 (AV.ro x0)) fun v1 =>
  MM (hp0 ++ [.cells v1 Zl]) fun h0 =>
  Ze (ZV h0 6 (.ptr (hp0).length 0)) fun v2 =>
  Y1 (K YC [v2] h0) fun v3 h4 f5 =>
  Ze (Zb .neq .prim (AV.ro v3) (.int .i64 0)) fun v6 =>
  ifK v6
  (some (Y6 false hp0 (.str []) h4 (Zf hp0.length none f5)))
  (Ze (Yh 0 (.ptr (hp0).length 0)) fun v7 =>
  Ze (Zt h4 v7) fun v8 =>
  Y1 (Yo K Xo [v8] h4) fun v9 h10 f11 =>
  Ze (Yh 1 (.ptr (hp0).length 0)) fun v12 =>
  Ze (Zt h10 v12) fun v13 =>
  Y1 (Yo K Xo [v13] h10) fun v14 h15 f16 =>
  Ze ((G 0).map AV.ref) fun g17 =>
  Ze (Zt h15 g17) fun v18 =>
  Ze (Yh 2 (.ptr (hp0).length 0)) fun v19 =>
  Ze (Zt h15 v19) fun v20 =>
  Ze (Zb .sub .prim v20 (.int .i64 1)) fun v21 =>
  Ze (ZZ (.slice 1) v18 v21) fun v22 =>
  Ze (Zt h15 v22) fun v23 =>
  Ze (Yh 3 (.ptr (hp0).length 0)) fun v24 =>
  Ze (Zt h15 v24) fun v25 =>
  Y1 (Yo K Xo [v25] h15) fun v26 h27 f28 =>
  Ze (Yh 4 (.ptr (hp0).length 0)) fun v29 =>
  Ze (Zt h27 v29) fun v30 =>
  Y1 (Yo K Xo [v30] h27) fun v31 h32 f33 =>
  Ze (Yh 5 (.ptr (hp0).length 0)) fun v34 =>
  Ze (Zt h32 v34) fun v35 =>
  Y1 (Yo K Xo [v35] h32) fun v36 h37 f38 =>
  XR (Tz ZaI 1 [(AV.ro v9),(AV.ro v14),v23,(AV.ro v26),(AV.ro v31),(AV.ro v36)] h37) fun v39 h40 =>
  Y1 (Yo K VF [(AV.ro v39),(.str [32])] h40) fun v41 h42 f43 =>
  some (Y6 false hp0 v41 h42 (Zf hp0.length (Zf hp0.length (Zf hp0.length (Zf hp0.length (Zf hp0.length (Zf hp0.length (Zf hp0.length none f5) f11) f16) f28) f33) f38) f43)))
theorem IZ (G:GT)(K:KT)(L:Nat)(x0:AV)(hp0:HP):fnK G K BZ L Js [x0] hp0=XO G K L x0 hp0:=by
  kernel_rfl
theorem TR {C:Cfg}(h:C.T Ws=some Js){n:Nat}{x0:AV}{hp:HP}{r:AV×HP×Eff}(hr:XO C.G (Za C n) C.L x0 hp=some r):Za C (n + 1) Ws [x0] hp=some r:=YQ h (Nat.le_of_ble_eq_true rfl) ((IZ ..).trans hr)
def Qj (G:GT)(K:KT)(L:Nat)(hp0:HP)(x4:AV)(hp:HP)(ef:Eff):KR :=
  MM (hp ++ [.cells [(.own 1 [])] ZaH]) fun h5 =>
  Y1 (K VT [x4,(.int .i64 1000)] h5) fun v6 h7 f8 =>
  none
theorem Us (G:GT)(K:KT)(L:Nat)(hp0:HP)   : ZF G 60 hp0.length K Zw L V6 (YU Zw Zz hp0) (YU Zw Zz hp0) []=fun e hp ef=>Qj G K L hp0  (e 4).rd hp ef:=by
  kernel_rfl
def ZE (G:GT)(K:KT)(L:Nat)(hp0:HP)(k0:AV→HP→Eff→KR):Nat→AV→AV→AV→AV→AV→AV→HP→Eff→KR
  | 0,_,_,_,_,_,_,_,_=>none
  | m + 1,x4,y4,x5,x20,x21,x22,hp,ef =>
    Ze (Zb .lss .prim x22 x21) fun v10 =>
    ifK v10
    (Ze (ZZ (.slice 6) x20 x22) fun v11 =>
    Ze (ZV hp 6 v11) fun v12 =>
    MM (hp ++ [.cells [(.int .i64 0),(.int .i64 0),(.int .i64 0),(.int .i64 0),(.int .i64 0),(.int .i64 0)] Zl]) fun h13 =>
    XR (stV hp0.length 6 (.ptr (hp).length 0) v12 h13 ef) fun h14 f15 =>
    Ze (ZV h14 6 (.ptr (hp).length 0)) fun v16 =>
    Y1 (K YC [v16] h14) fun v17 h18 f19 =>
    Ze (Zb .neq .prim (AV.ro v17) (.int .i64 0)) fun v20 =>
    ifK v20
    (some (Y6 false hp0 (.tup [(AV.nm (.own 1 [])),(AV.nm v17)]) h18 (Zf hp0.length f15 f19)))
    (Ze (Yh 0 (.ptr (hp).length 0)) fun v21 =>
    Ze (Zt h18 v21) fun v22 =>
    Ze (Zb .lss .prim v22 x5) fun v23 =>
    ifK v23
    (some (Y6 false hp0 (.tup [(AV.nm (.own 1 [])),(AV.nm (.int .i64 12))]) h18 (Zf hp0.length f15 f19)))
    (Ze (ZV h18 6 (.ptr (hp).length 0)) fun v24 =>
    Y1 (K QY [v24,x5] h18) fun v25 h26 f27 =>
    Ze (MQ 1 8 y4 (AV.ro v25) h26) fun v28 =>
    Ze (Yh 0 (.ptr (hp).length 0)) fun v29 =>
    Ze (Zt h26 v29) fun v30 =>
    Ze (Zb .add .prim x22 (.int .i64 1)) fun v31 =>
    ZE G K L hp0 k0 m (AV.ro v28) v28 v30 x20 x21 v31 h26 (Zf hp0.length (Zf hp0.length f15 f19) f27))))
    (k0 x4 hp ef)
theorem Ut (G:GT)(K:KT)(L:Nat)(hp0:HP)(k0:AV→HP→Eff→KR)  : ∀ m,QH (fun n'=>ZF G 60 hp0.length K Zw L QO n' (YU Zw Zz hp0) [(0,(fun e hp ef=>k0 (e 4).rd hp ef))]) m=fun e hp ef=>ZE G K L hp0 k0 m (e 4).rd (e 4).val (e 5).rd (e 20).rd (e 21).rd (e 22).rd hp ef:=by
  intro m
  induction m with
  | zero=>rfl
  | succ m ih =>
    show ZF G 60 hp0.length K Zw L QO (QH _ m) (YU Zw Zz hp0) [(0,(fun e hp ef=>k0 (e 4).rd hp ef))]=_
    rw [ih]
    kernel_rfl
theorem X9 (G:GT)(K:KT)(L:Nat)(hp0:HP)(k0:AV→HP→Eff→KR)(zn:XD):ZF G 60 hp0.length K Zw L V7 zn (YU Zw Zz hp0) [(0,(fun e hp ef=>k0 (e 4).rd hp ef))]=fun e hp ef=>ZE G K L hp0 k0 L (e 4).rd (e 4).val (e 5).rd (e 20).rd (e 21).rd (e 22).rd hp ef:=Ut G K L hp0 k0  L
def Xg (G:GT)(K:KT)(L:Nat)(x0:AV)(hp0:HP):KR :=
  Ze (ZR hp0 .slice (AV.ro x0)) fun v0 =>
  Ze (Zb .gtr .prim v0 (.int .i64 50000)) fun v1 =>
  ifK v1
  (some (Y6 false hp0 (.tup [(AV.nm (.own 1 [])),(AV.nm (.int .i64 6))]) hp0 none))
  (Ze (ZR hp0 .slice (AV.ro x0)) fun v2 =>
  XR (Tz RP 1 [v2] hp0) fun v3 h4 =>
  Ze (ZR h4 .slice (AV.ro x0)) fun v9 =>
  ZE G K L hp0 (Qj G K L hp0) L (AV.ro v3) v3 (.int .i64 0) (AV.ro x0) v9 (.int .i64 0) h4 none)
theorem GM (G:GT)(K:KT)(L:Nat)(x0:AV)(hp0:HP):fnK G K Zw L Zz [x0] hp0=Xg G K L x0 hp0:=by
  show ZF G 60 hp0.length K Zw L Y2 (YU Zw Zz hp0) (YU Zw Zz hp0) [] (RZ [x0]) hp0 none=_
  simp only [Y2,Wh,Yq,Yr,Y8]
  rw [Us G K L hp0  ,X9 G K L hp0 (Qj G K L hp0)  _]
  kernel_rfl
theorem Iu {C:Cfg}(h:C.T Zg=some Zz){n:Nat}{x0:AV}{hp:HP}{r:AV×HP×Eff}(hr:Xg C.G (Za C n) C.L x0 hp=some r):Za C (n + 1) Zg [x0] hp=some r:=YQ h (Nat.le_of_ble_eq_true rfl) ((GM ..).trans hr)
def WN (G:GT)(K:KT)(L:Nat)(hp0:HP)(y4:AV)(hp:HP)(ef:Eff):KR :=
  some (Y6 false hp0 (.tup [(AV.nm y4),(AV.nm (.int .i64 0))]) hp ef)
theorem G8 (G:GT)(K:KT)(L:Nat)(hp0:HP)   : ZF G 88 hp0.length K Z9 L Ud (YU Z9 Yf hp0) (YU Z9 Yf hp0) []=fun e hp ef=>WN G K L hp0  (e 4).val hp ef:=by
  kernel_rfl
def WM (G:GT)(K:KT)(L:Nat)(hp0:HP)(kn:AV→AV→AV→AV→AV→HP→Eff→KR)(x0:AV)(x4:AV)(y4:AV)(x5:AV)(x6:AV)(hp:HP)(ef:Eff):KR :=
  Ze (Zb .add .prim x6 (.int .i64 1)) fun v8 =>
  kn x0 x4 y4 x5 v8 hp ef
theorem G7 (G:GT)(K:KT)(L:Nat)(hp0:HP)(kn:AV→AV→AV→AV→AV→HP→Eff→KR)(z0:XD):ZF G 88 hp0.length K Z9 L Uc (fun e hp ef=>kn (e 0).rd (e 4).rd (e 4).val (e 5).rd (e 6).rd hp ef) (YU Z9 Yf hp0) [(0,z0)]=fun e hp ef=>WM G K L hp0 kn (e 0).rd (e 4).rd (e 4).val (e 5).rd (e 6).rd hp ef:=by
  kernel_rfl
def Qu (G:GT)(K:KT)(L:Nat)(hp0:HP)(kn:AV→AV→AV→AV→AV→HP→Eff→KR)(x0:AV)(x4:AV)(y4:AV)(x6:AV)(hp:HP)(ef:Eff):KR :=
  Ze (ZZ (.slice 6) x0 x6) fun v40 =>
  Ze (Yh 0 v40) fun v41 =>
  Ze (Zt hp v41) fun v42 =>
  kn x0 x4 y4 v42 x6 hp ef
theorem G6 (G:GT)(K:KT)(L:Nat)(hp0:HP)(kn:AV→AV→AV→AV→AV→HP→Eff→KR)(z1 z0:XD):ZF G 88 hp0.length K Z9 L Ub (fun e hp ef=>kn (e 0).rd (e 4).rd (e 4).val (e 5).rd (e 6).rd hp ef) (YU Z9 Yf hp0) [(1,z1),(0,z0)]=fun e hp ef=>Qu G K L hp0 kn (e 0).rd (e 4).rd (e 4).val (e 6).rd hp ef:=by
  kernel_rfl
def Wj (G:GT)(K:KT)(L:Nat)(hp0:HP)(k2:AV→AV→AV→AV→HP→Eff→KR):Nat→AV→AV→AV→AV→AV→AV→HP→Eff→KR
  | 0,_,_,_,_,_,_,_,_=>none
  | m + 1,x0,x4,y4,x6,x8,x9,hp,ef =>
    Ze (ZR hp .slice x8) fun v43 =>
    Ze (Zb .lss .prim x9 v43) fun v44 =>
    ifK v44
    (Ze (ZZ (.slice 1) x8 x9) fun v45 =>
    Ze (Zt hp v45) fun v46 =>
    Y1 (K Qm [x4,v46] hp) fun v47 h48 f49 =>
    Ze (Zb .add .prim x9 (.int .i64 1)) fun v50 =>
    Wj G K L hp0 k2 m x0 (AV.ro v47) v47 x6 x8 v50 h48 (Zf hp0.length ef f49))
    (k2 x0 x4 y4 x6 hp ef)
theorem GK (G:GT)(K:KT)(L:Nat)(hp0:HP)(k2:AV→AV→AV→AV→HP→Eff→KR)(z1 z0:XD):∀ m,QH (fun n'=>ZF G 88 hp0.length K Z9 L XG n' (YU Z9 Yf hp0) [(2,(fun e hp ef=>k2 (e 0).rd (e 4).rd (e 4).val (e 6).rd hp ef)),(1,z1),(0,z0)]) m=fun e hp ef=>Wj G K L hp0 k2 m (e 0).rd (e 4).rd (e 4).val (e 6).rd (e 8).rd (e 9).rd hp ef:=by
  intro m
  induction m with
  | zero=>rfl
  | succ m ih =>
    show ZF G 88 hp0.length K Z9 L XG (QH _ m) (YU Z9 Yf hp0) [(2,(fun e hp ef=>k2 (e 0).rd (e 4).rd (e 4).val (e 6).rd hp ef)),(1,z1),(0,z0)]=_
    rw [ih]
    kernel_rfl
theorem GH (G:GT)(K:KT)(L:Nat)(hp0:HP)(k2:AV→AV→AV→AV→HP→Eff→KR)(z1 z0:XD)(zn:XD):ZF G 88 hp0.length K Z9 L Uf zn (YU Z9 Yf hp0) [(2,(fun e hp ef=>k2 (e 0).rd (e 4).rd (e 4).val (e 6).rd hp ef)),(1,z1),(0,z0)]=fun e hp ef=>Wj G K L hp0 k2 L (e 0).rd (e 4).rd (e 4).val (e 6).rd (e 8).rd (e 9).rd hp ef:=GK G K L hp0 k2 z1 z0 L
def Z7 (G:GT)(K:KT)(L:Nat)(hp0:HP)(k0:AV→HP→Eff→KR):Nat→AV→AV→AV→AV→AV→HP→Eff→KR
  | 0,_,_,_,_,_,_,_=>none
  | m + 1,x0,x4,y4,x5,x6,hp,ef =>
    Ze (ZR hp .slice x0) fun v6 =>
    Ze (Zb .lss .prim x6 v6) fun v7 =>
    ifK v7
    (Ze (ZZ (.slice 6) x0 x6) fun v9 =>
    Ze (ZV hp 6 v9) fun v10 =>
    Y1 (K Jn [v10] hp) fun v11 h12 f13 =>
    Ze (Zb .neq .prim (AV.ro v11) (.int .i64 0)) fun v14 =>
    ifK v14
    (some (Y6 false hp0 (.tup [(AV.nm (.own 1 [])),(AV.nm v11)]) h12 (Zf hp0.length ef f13)))
    (Ze (ZZ (.slice 6) x0 x6) fun v15 =>
    Ze (Yh 0 v15) fun v16 =>
    Ze (Zt h12 v16) fun v17 =>
    Ze (Zb .lss .prim v17 x5) fun v18 =>
    ifK v18
    (some (Y6 false hp0 (.tup [(AV.nm (.own 1 [])),(AV.nm (.int .i64 12))]) h12 (Zf hp0.length ef f13)))
    (Ze (ZZ (.slice 6) x0 x6) fun v19 =>
    Ze (Yh 0 v19) fun v20 =>
    Ze (Zt h12 v20) fun v21 =>
    Ze (Zb .sub .prim v21 x5) fun v22 =>
    Ze (ZZ (.slice 6) x0 x6) fun v23 =>
    Ze (Yh 1 v23) fun v24 =>
    Ze (Zt h12 v24) fun v25 =>
    Ze (ZZ (.slice 6) x0 x6) fun v26 =>
    Ze (Yh 2 v26) fun v27 =>
    Ze (Zt h12 v27) fun v28 =>
    Ze (ZZ (.slice 6) x0 x6) fun v29 =>
    Ze (Yh 3 v29) fun v30 =>
    Ze (Zt h12 v30) fun v31 =>
    Ze (ZZ (.slice 6) x0 x6) fun v32 =>
    Ze (Yh 4 v32) fun v33 =>
    Ze (Zt h12 v33) fun v34 =>
    Ze (ZZ (.slice 6) x0 x6) fun v35 =>
    Ze (Yh 5 v35) fun v36 =>
    Ze (Zt h12 v36) fun v37 =>
    XR (Tz RP 1 [v22,v25,v28,v31,v34,v37] h12) fun v38 h39 =>
    Wj G K L hp0 (Qu G K L hp0 (WM G K L hp0 (Z7 G K L hp0 k0 m))) L x0 x4 y4 x6 (AV.ro v38) (.int .i64 0) h39 (Zf hp0.length ef f13))))
    (k0 y4 hp ef)
theorem GG (G:GT)(K:KT)(L:Nat)(hp0:HP)(k0:AV→HP→Eff→KR)  : ∀ m,QH (fun n'=>ZF G 88 hp0.length K Z9 L QL n' (YU Z9 Yf hp0) [(0,(fun e hp ef=>k0 (e 4).val hp ef))]) m=fun e hp ef=>Z7 G K L hp0 k0 m (e 0).rd (e 4).rd (e 4).val (e 5).rd (e 6).rd hp ef:=by
  intro m
  induction m with
  | zero=>rfl
  | succ m ih =>
    show ZF G 88 hp0.length K Z9 L QL (QH _ m) (YU Z9 Yf hp0) [(0,(fun e hp ef=>k0 (e 4).val hp ef))]=_
    rw [ih]
    simp only [QL,Wh,Yq,Yr,Y8]
    rw [G7 G K L hp0 (Z7 G K L hp0 k0 m) _,G6 G K L hp0 (WM G K L hp0 (Z7 G K L hp0 k0 m)) _ _,GH G K L hp0 (Qu G K L hp0 (WM G K L hp0 (Z7 G K L hp0 k0 m))) _ _ _]
    kernel_rfl
theorem G9 (G:GT)(K:KT)(L:Nat)(hp0:HP)(k0:AV→HP→Eff→KR)(zn:XD):ZF G 88 hp0.length K Z9 L Ue zn (YU Z9 Yf hp0) [(0,(fun e hp ef=>k0 (e 4).val hp ef))]=fun e hp ef=>Z7 G K L hp0 k0 L (e 0).rd (e 4).rd (e 4).val (e 5).rd (e 6).rd hp ef:=GG G K L hp0 k0  L
def X8 (G:GT)(K:KT)(L:Nat)(x0:AV)(hp0:HP):KR :=
  Ze (ZR hp0 .slice (AV.ro x0)) fun v0 =>
  Ze (Zb .gtr .prim v0 (.int .i64 50000)) fun v1 =>
  ifK v1
  (some (Y6 false hp0 (.tup [(AV.nm (.own 1 [])),(AV.nm (.int .i64 6))]) hp0 none))
  (Ze (ZR hp0 .slice (AV.ro x0)) fun v2 =>
  Y1 (K Qm [(.own 1 []),v2] hp0) fun v3 h4 f5 =>
  Z7 G K L hp0 (WN G K L hp0) L (AV.ro x0) (AV.ro v3) v3 (.int .i64 0) (.int .i64 0) h4 (Zf hp0.length none f5))
theorem OL (G:GT)(K:KT)(L:Nat)(x0:AV)(hp0:HP):fnK G K Z9 L Yf [x0] hp0=X8 G K L x0 hp0:=by
  show ZF G 88 hp0.length K Z9 L Ua (YU Z9 Yf hp0) (YU Z9 Yf hp0) [] (RZ [x0]) hp0 none=_
  simp only [Ua,Wh,Yq,Yr,Y8]
  rw [G8 G K L hp0  ,G9 G K L hp0 (WN G K L hp0)  _]
  kernel_rfl
theorem Lp {C:Cfg}(h:C.T X3=some Yf){n:Nat}{x0:AV}{hp:HP}{r:AV×HP×Eff}(hr:X8 C.G (Za C n) C.L x0 hp=some r):Za C (n + 1) X3 [x0] hp=some r:=YQ h (Nat.le_of_ble_eq_true rfl) ((OL ..).trans hr)
def YO (G:GT)(K:KT)(L:Nat)(hp0:HP)(x0:AV)(x4:AV)(x6:AV)(y6:AV)(hp:HP)(ef:Eff):KR :=
  Y1 (K Zg [x6] hp) fun v15 h16 f17 =>
  Ze (Zm (AV.ro v15) 0) fun v18 =>
  Ze (Zm (AV.ro v15) 1) fun v19 =>
  Ze (Qw x4) fun v20 =>
  Ze (Yh 0 v20) fun v21 =>
  Ze (Zt h16 v21) fun v22 =>
  Ze (ZR h16 .slice v22) fun v23 =>
  Ze (Zb .gtr .prim v23 (.int .i64 0)) fun v24 =>
  Ql v24 false
  (Ze (Zb .neq .prim v19 (.int .i64 0)) fun v25 =>
  some (v25,h16,(Zf hp0.length ef f17)))
  (some (.bool true)) h16 (Zf hp0.length ef f17) fun v26 h27 f28 =>
  Ql (AV.ro v26) false
  (Y1 (K XL [v18,x0] h27) fun v29 h30 f31 =>
  Ze (XH .not (AV.ro v29)) fun v32 =>
  some (v32,h30,(Zf hp0.length f28 f31)))
  (some (.bool true)) h27 f28 fun v33 h34 f35 =>
  ifK (AV.ro v33)
  (some (Y6 false hp0 (.tup [(AV.nm (.own 6 [])),(AV.nm (.int .i64 8))]) h34 f35))
  (some (Y6 false hp0 (.tup [(AV.nm y6),(AV.nm (.int .i64 0))]) h34 f35))
theorem Un (G:GT)(K:KT)(L:Nat)(hp0:HP)   : ZF G 92 hp0.length K ZO L V4 (YU ZO Ym hp0) (YU ZO Ym hp0) []=fun e hp ef=>YO G K L hp0  (e 0).rd (e 4).rd (e 6).rd (e 6).val hp ef:=by
  kernel_rfl
def ZQ (G:GT)(K:KT)(L:Nat)(hp0:HP)(k1:AV→AV→AV→AV→HP→Eff→KR):Nat→AV→AV→AV→AV→AV→AV→AV→HP→Eff→KR
  | 0,_,_,_,_,_,_,_,_,_=>none
  | m + 1,x0,x4,x6,y6,x7,x32,x33,hp,ef =>
    Ze (Zb .lss .prim x33 x32) fun v36 =>
    ifK v36
    (MM (hp ++ [.cells [(.int .i64 0),(.int .i64 0),(.int .i64 0),(.int .i64 0),(.int .i64 0),(.int .i64 0)] Zl]) fun h37 =>
    Y1 (K Zy [x4] h37) fun v38 h39 f40 =>
    Ze (Zb .add .prim x7 (AV.ro v38)) fun v41 =>
    Ze (Yh 0 (.ptr (hp).length 0)) fun v42 =>
    XR (Lt hp0.length v42 v41 h39 (Zf hp0.length ef f40)) fun h43 f44 =>
    Y1 (K Zy [x4] h43) fun v45 h46 f47 =>
    Ze (Yh 1 (.ptr (hp).length 0)) fun v48 =>
    XR (Lt hp0.length v48 v45 h46 (Zf hp0.length f44 f47)) fun h49 f50 =>
    Y1 (K Zy [x4] h49) fun v51 h52 f53 =>
    Ze (Yh 2 (.ptr (hp).length 0)) fun v54 =>
    XR (Lt hp0.length v54 v51 h52 (Zf hp0.length f50 f53)) fun h55 f56 =>
    Y1 (K Zy [x4] h55) fun v57 h58 f59 =>
    Ze (Yh 3 (.ptr (hp).length 0)) fun v60 =>
    XR (Lt hp0.length v60 v57 h58 (Zf hp0.length f56 f59)) fun h61 f62 =>
    Y1 (K Zy [x4] h61) fun v63 h64 f65 =>
    Ze (Yh 4 (.ptr (hp).length 0)) fun v66 =>
    XR (Lt hp0.length v66 v63 h64 (Zf hp0.length f62 f65)) fun h67 f68 =>
    Y1 (K Zy [x4] h67) fun v69 h70 f71 =>
    Ze (Yh 5 (.ptr (hp).length 0)) fun v72 =>
    XR (Lt hp0.length v72 v69 h70 (Zf hp0.length f68 f71)) fun h73 f74 =>
    Ze (Qw x4) fun v75 =>
    Ze (Yh 1 v75) fun v76 =>
    Ze (Zt h73 v76) fun v77 =>
    Ze (Zb .neq .prim v77 (.int .i64 0)) fun v78 =>
    ifK v78
    (Ze (Qw x4) fun v79 =>
    Ze (Yh 1 v79) fun v80 =>
    Ze (Zt h73 v80) fun v81 =>
    some (Y6 false hp0 (.tup [(AV.nm (.own 6 [])),(AV.nm v81)]) h73 f74))
    (Ze (ZV h73 6 (.ptr (hp).length 0)) fun v82 =>
    XR (Tz Zl 6 [v82] h73) fun v83 h84 =>
    Ze (MQ 6 48 y6 (AV.ro v83) h84) fun v85 =>
    Ze (Zb .add .prim x33 (.int .i64 1)) fun v86 =>
    ZQ G K L hp0 k1 m x0 x4 (AV.ro v85) v85 v41 x32 v86 h84 f74))
    (k1 x0 x4 x6 y6 hp ef)
theorem Ur (G:GT)(K:KT)(L:Nat)(hp0:HP)(k1:AV→AV→AV→AV→HP→Eff→KR)  : ∀ m,QH (fun n'=>ZF G 92 hp0.length K ZO L QN n' (YU ZO Ym hp0) [(1,(fun e hp ef=>k1 (e 0).rd (e 4).rd (e 6).rd (e 6).val hp ef))]) m=fun e hp ef=>ZQ G K L hp0 k1 m (e 0).rd (e 4).rd (e 6).rd (e 6).val (e 7).rd (e 32).rd (e 33).rd hp ef:=by
  intro m
  induction m with
  | zero=>rfl
  | succ m ih =>
    show ZF G 92 hp0.length K ZO L QN (QH _ m) (YU ZO Ym hp0) [(1,(fun e hp ef=>k1 (e 0).rd (e 4).rd (e 6).rd (e 6).val hp ef))]=_
    rw [ih]
    kernel_rfl
theorem Uo (G:GT)(K:KT)(L:Nat)(hp0:HP)(k1:AV→AV→AV→AV→HP→Eff→KR)(zn:XD):ZF G 92 hp0.length K ZO L V5 zn (YU ZO Ym hp0) [(1,(fun e hp ef=>k1 (e 0).rd (e 4).rd (e 6).rd (e 6).val hp ef))]=fun e hp ef=>ZQ G K L hp0 k1 L (e 0).rd (e 4).rd (e 6).rd (e 6).val (e 7).rd (e 32).rd (e 33).rd hp ef:=Ur G K L hp0 k1  L
def Wl (G:GT)(K:KT)(L:Nat)(x0:AV)(hp0:HP):KR :=
  Ze (fill [(.own 1 []),(.int .i64 0)] [(0,1,AV.nm (AV.ro x0))]) fun v0 =>
  Ze (SX 2 (.agg v0)) fun v2 =>
  MM (hp0 ++ [.cells v2 Wn]) fun h1 =>
  Y1 (K Zy [(.ptr (hp0).length 0)] h1) fun v3 h4 f5 =>
  Ze (Qw (.ptr (hp0).length 0)) fun v6 =>
  Ze (Yh 1 v6) fun v7 =>
  Ze (Zt h4 v7) fun v8 =>
  Ze (Zb .neq .prim v8 (.int .i64 0)) fun v9 =>
  ifK v9
  (Ze (Qw (.ptr (hp0).length 0)) fun v10 =>
  Ze (Yh 1 v10) fun v11 =>
  Ze (Zt h4 v11) fun v12 =>
  some (Y6 false hp0 (.tup [(AV.nm (.own 6 [])),(AV.nm v12)]) h4 (Zf hp0.length none f5)))
  (Ze (Zb .lss .prim (AV.ro v3) (.int .i64 0)) fun v13 =>
  ifK v13
  (some (Y6 false hp0 (.tup [(AV.nm (.own 6 [])),(AV.nm (.int .i64 8))]) h4 (Zf hp0.length none f5)))
  (Ze (Zb .gtr .prim (AV.ro v3) (.int .i64 50000)) fun v14 =>
  ifK v14
  (some (Y6 false hp0 (.tup [(AV.nm (.own 6 [])),(AV.nm (.int .i64 6))]) h4 (Zf hp0.length none f5)))
  (ZQ G K L hp0 (YO G K L hp0) L (AV.ro x0) (.ptr (hp0).length 0) (.lst 6 []) (.own 6 []) (.int .i64 0) (AV.ro v3) (.int .i64 0) h4 (Zf hp0.length none f5))))
theorem GL (G:GT)(K:KT)(L:Nat)(x0:AV)(hp0:HP):fnK G K ZO L Ym [x0] hp0=Wl G K L x0 hp0:=by
  show ZF G 92 hp0.length K ZO L Vg (YU ZO Ym hp0) (YU ZO Ym hp0) [] (RZ [x0]) hp0 none=_
  simp only [Vg,Wh,Yq,Yr,Y8]
  rw [Un G K L hp0  ,Uo G K L hp0 (YO G K L hp0)  _]
  kernel_rfl
theorem Ir {C:Cfg}(h:C.T ZI=some Ym){n:Nat}{x0:AV}{hp:HP}{r:AV×HP×Eff}(hr:Wl C.G (Za C n) C.L x0 hp=some r):Za C (n + 1) ZI [x0] hp=some r:=YQ h (Nat.le_of_ble_eq_true rfl) ((GL ..).trans hr)
def WS (G:GT)(K:KT)(L:Nat)(hp0:HP)(hp:HP)(ef:Eff):KR :=
  some (Y6 false hp0 (.bool true) hp ef)
theorem IW (G:GT)(K:KT)(L:Nat)(hp0:HP)   : ZF G 26 hp0.length K YZ L Gi (YU YZ Qa hp0) (YU YZ Qa hp0) []=fun e hp ef=>WS G K L hp0   hp ef:=by
  kernel_rfl
def Y3 (G:GT)(K:KT)(L:Nat)(hp0:HP)(k0:HP→Eff→KR):Nat→AV→AV→AV→HP→Eff→KR
  | 0,_,_,_,_,_=>none
  | m + 1,x0,x1,x5,hp,ef =>
    Ze (ZR hp .slice x0) fun v3 =>
    Ze (Zb .lss .prim x5 v3) fun v4 =>
    ifK v4
    (Ze (ZZ (.slice 6) x0 x5) fun v5 =>
    Ze (ZV hp 6 v5) fun v6 =>
    Ze (ZZ (.slice 6) x1 x5) fun v7 =>
    Ze (ZV hp 6 v7) fun v8 =>
    Ze (Zb .neq (.struct [.int,.int,.int,.int,.int,.int]) v6 v8) fun v9 =>
    ifK v9
    (some (Y6 false hp0 (.bool false) hp ef))
    (Ze (Zb .add .prim x5 (.int .i64 1)) fun v10 =>
    Y3 G K L hp0 k0 m x0 x1 v10 hp ef))
    (k0  hp ef)
theorem IY (G:GT)(K:KT)(L:Nat)(hp0:HP)(k0:HP→Eff→KR)  : ∀ m,QH (fun n'=>ZF G 26 hp0.length K YZ L VM n' (YU YZ Qa hp0) [(0,(fun e hp ef=>k0  hp ef))]) m=fun e hp ef=>Y3 G K L hp0 k0 m (e 0).rd (e 1).rd (e 5).rd hp ef:=by
  intro m
  induction m with
  | zero=>rfl
  | succ m ih =>
    show ZF G 26 hp0.length K YZ L VM (QH _ m) (YU YZ Qa hp0) [(0,(fun e hp ef=>k0  hp ef))]=_
    rw [ih]
    kernel_rfl
theorem IX (G:GT)(K:KT)(L:Nat)(hp0:HP)(k0:HP→Eff→KR)(zn:XD):ZF G 26 hp0.length K YZ L Gj zn (YU YZ Qa hp0) [(0,(fun e hp ef=>k0  hp ef))]=fun e hp ef=>Y3 G K L hp0 k0 L (e 0).rd (e 1).rd (e 5).rd hp ef:=IY G K L hp0 k0  L
def Jd (G:GT)(K:KT)(L:Nat)(x0 x1:AV)(hp0:HP):KR :=
  Ze (ZR hp0 .slice (AV.ro x0)) fun v0 =>
  Ze (ZR hp0 .slice (AV.ro x1)) fun v1 =>
  Ze (Zb .neq .prim v0 v1) fun v2 =>
  ifK v2
  (some (Y6 false hp0 (.bool false) hp0 none))
  (Y3 G K L hp0 (WS G K L hp0) L (AV.ro x0) (AV.ro x1) (.int .i64 0) hp0 none)
theorem Bo (G:GT)(K:KT)(L:Nat)(x0 x1:AV)(hp0:HP):fnK G K YZ L Qa [x0,x1] hp0=Jd G K L x0 x1 hp0:=by
  show ZF G 26 hp0.length K YZ L Hz (YU YZ Qa hp0) (YU YZ Qa hp0) [] (RZ [x0,x1]) hp0 none=_
  simp only [Hz,Wh,Yq,Yr,Y8]
  rw [IW G K L hp0  ,IX G K L hp0 (WS G K L hp0)  _]
  kernel_rfl
theorem IG {C:Cfg}(h:C.T Xp=some Qa){n:Nat}{x0 x1:AV}{hp:HP}{r:AV×HP×Eff}(hr:Jd C.G (Za C n) C.L x0 x1 hp=some r):Za C (n + 1) Xp [x0,x1] hp=some r:=YQ h (Nat.le_of_ble_eq_true rfl) ((Bo ..).trans hr)
def WL (G:GT)(K:KT)(L:Nat)(hp0:HP)(x0:AV)(x7:AV)(y7:AV)(hp:HP)(ef:Eff):KR :=
  Y1 (K X3 [x7] hp) fun v9 h10 f11 =>
  Ze (Zm (AV.ro v9) 0) fun v12 =>
  Ze (Zm (AV.ro v9) 1) fun v13 =>
  Ze (Zb .neq .prim v13 (.int .i64 0)) fun v14 =>
  Ql v14 false
  (Ze (ZM h10 .ofBytes v12) fun v15 =>
  Ze (ZM h10 .ofBytes x0) fun v16 =>
  Ze (Zb .neq .prim v15 v16) fun v17 =>
  some (v17,h10,(Zf hp0.length ef f11)))
  (some (.bool true)) h10 (Zf hp0.length ef f11) fun v18 h19 f20 =>
  ifK (AV.ro v18)
  (some (Y6 false hp0 (.tup [(AV.nm (.own 6 [])),(AV.nm (.int .i64 8))]) h19 f20))
  (some (Y6 false hp0 (.tup [(AV.nm y7),(AV.nm (.int .i64 0))]) h19 f20))
theorem Gw (G:GT)(K:KT)(L:Nat)(hp0:HP)   : ZF G 93 hp0.length K Z8 L JX (YU Z8 Ye hp0) (YU Z8 Ye hp0) []=fun e hp ef=>WL G K L hp0  (e 0).rd (e 7).rd (e 7).val hp ef:=by
  kernel_rfl
def YJ (G:GT)(K:KT)(L:Nat)(hp0:HP)(kn:AV→AV→AV→AV→AV→AV→AV→HP→Eff→KR)(x0:AV)(x4:AV)(x5:AV)(x7:AV)(y7:AV)(x8:AV)(x9:AV)(hp:HP)(ef:Eff):KR :=
  Ze (Zb .add .prim x9 (.int .i64 1)) fun v22 =>
  kn x0 x4 x5 x7 y7 x8 v22 hp ef
theorem Gv (G:GT)(K:KT)(L:Nat)(hp0:HP)(kn:AV→AV→AV→AV→AV→AV→AV→HP→Eff→KR)(z1:XD):ZF G 93 hp0.length K Z8 L JW (fun e hp ef=>kn (e 0).rd (e 4).rd (e 5).rd (e 7).rd (e 7).val (e 8).rd (e 9).rd hp ef) (YU Z8 Ye hp0) [(1,z1)]=fun e hp ef=>YJ G K L hp0 kn (e 0).rd (e 4).rd (e 5).rd (e 7).rd (e 7).val (e 8).rd (e 9).rd hp ef:=by
  kernel_rfl
def Wi (G:GT)(K:KT)(L:Nat)(hp0:HP)(kn:AV→AV→AV→AV→AV→AV→AV→HP→Eff→KR)(x0:AV)(x4:AV)(x5:AV)(y7:AV)(x8:AV)(x9:AV)(x10:AV)(hp:HP)(ef:Eff):KR :=
  Ze (ZZ (.arr 6 1) x10 (.int .i64 0)) fun v24 =>
  Ze (Zt hp v24) fun v25 =>
  Ze (Zb .add .prim x8 v25) fun v26 =>
  Ze (ZZ (.arr 6 1) x10 (.int .i64 1)) fun v27 =>
  Ze (Zt hp v27) fun v28 =>
  Ze (ZZ (.arr 6 1) x10 (.int .i64 2)) fun v29 =>
  Ze (Zt hp v29) fun v30 =>
  Ze (ZZ (.arr 6 1) x10 (.int .i64 3)) fun v31 =>
  Ze (Zt hp v31) fun v32 =>
  Ze (ZZ (.arr 6 1) x10 (.int .i64 4)) fun v33 =>
  Ze (Zt hp v33) fun v34 =>
  Ze (ZZ (.arr 6 1) x10 (.int .i64 5)) fun v35 =>
  Ze (Zt hp v35) fun v36 =>
  Ze (fill [(.int .i64 0),(.int .i64 0),(.int .i64 0),(.int .i64 0),(.int .i64 0),(.int .i64 0)] [(0,1,AV.nm v26),(1,1,AV.nm v28),(2,1,AV.nm v30),(3,1,AV.nm v32),(4,1,AV.nm v34),(5,1,AV.nm v36)]) fun v37 =>
  XR (Tz Zl 6 [(.agg v37)] hp) fun v38 h39 =>
  Ze (MQ 6 48 y7 (AV.ro v38) h39) fun v40 =>
  kn x0 x4 x5 (AV.ro v40) v40 v26 x9 h39 ef
theorem Gu (G:GT)(K:KT)(L:Nat)(hp0:HP)(kn:AV→AV→AV→AV→AV→AV→AV→HP→Eff→KR)(z2 z1:XD):ZF G 93 hp0.length K Z8 L JV (fun e hp ef=>kn (e 0).rd (e 4).rd (e 5).rd (e 7).rd (e 7).val (e 8).rd (e 9).rd hp ef) (YU Z8 Ye hp0) [(2,z2),(1,z1)]=fun e hp ef=>Wi G K L hp0 kn (e 0).rd (e 4).rd (e 5).rd (e 7).val (e 8).rd (e 9).rd (e 10).rd hp ef:=by
  kernel_rfl
def ZU (G:GT)(K:KT)(L:Nat)(hp0:HP)(k3:AV→AV→AV→AV→AV→AV→AV→HP→Eff→KR):Nat→AV→AV→AV→AV→AV→AV→AV→AV→HP→Eff→KR
  | 0,_,_,_,_,_,_,_,_,_,_=>none
  | m + 1,x0,x4,x5,y7,x8,x9,x10,x11,hp,ef =>
    Ze (Zb .lss .prim x11 (.int .i64 6)) fun v41 =>
    ifK v41
    (Ze (WH (.slice 1) x0 (some x5) none) fun v42 =>
    Y1 (K JH [v42] hp) fun v43 h44 f45 =>
    Ze (Zm (AV.ro v43) 0) fun v46 =>
    Ze (Zm (AV.ro v43) 1) fun v47 =>
    Ze (Zm (AV.ro v43) 2) fun v48 =>
    Ze (Zb .neq .prim v48 (.int .i64 0)) fun v49 =>
    ifK v49
    (some (Y6 false hp0 (.tup [(AV.nm (.own 6 [])),(AV.nm v48)]) h44 (Zf hp0.length ef f45)))
    (Ze (ZZ (.arr 6 1) x10 x11) fun v50 =>
    XR (Lt hp0.length v50 v46 h44 (Zf hp0.length ef f45)) fun h51 f52 =>
    Ze (Zb .add .prim x5 v47) fun v53 =>
    Ze (Zb .add .prim x11 (.int .i64 1)) fun v54 =>
    ZU G K L hp0 k3 m x0 x4 v53 y7 x8 x9 x10 v54 h51 f52))
    (k3 x0 x4 x5 y7 x8 x9 x10 hp ef)
theorem G5 (G:GT)(K:KT)(L:Nat)(hp0:HP)(k3:AV→AV→AV→AV→AV→AV→AV→HP→Eff→KR)(z2 z1:XD):∀ m,QH (fun n'=>ZF G 93 hp0.length K Z8 L XF n' (YU Z8 Ye hp0) [(3,(fun e hp ef=>k3 (e 0).rd (e 4).rd (e 5).rd (e 7).val (e 8).rd (e 9).rd (e 10).rd hp ef)),(2,z2),(1,z1)]) m=fun e hp ef=>ZU G K L hp0 k3 m (e 0).rd (e 4).rd (e 5).rd (e 7).val (e 8).rd (e 9).rd (e 10).rd (e 11).rd hp ef:=by
  intro m
  induction m with
  | zero=>rfl
  | succ m ih =>
    show ZF G 93 hp0.length K Z8 L XF (QH _ m) (YU Z8 Ye hp0) [(3,(fun e hp ef=>k3 (e 0).rd (e 4).rd (e 5).rd (e 7).val (e 8).rd (e 9).rd (e 10).rd hp ef)),(2,z2),(1,z1)]=_
    rw [ih]
    kernel_rfl
theorem Gz (G:GT)(K:KT)(L:Nat)(hp0:HP)(k3:AV→AV→AV→AV→AV→AV→AV→HP→Eff→KR)(z2 z1:XD)(zn:XD):ZF G 93 hp0.length K Z8 L JZ zn (YU Z8 Ye hp0) [(3,(fun e hp ef=>k3 (e 0).rd (e 4).rd (e 5).rd (e 7).val (e 8).rd (e 9).rd (e 10).rd hp ef)),(2,z2),(1,z1)]=fun e hp ef=>ZU G K L hp0 k3 L (e 0).rd (e 4).rd (e 5).rd (e 7).val (e 8).rd (e 9).rd (e 10).rd (e 11).rd hp ef:=G5 G K L hp0 k3 z2 z1 L
def Z5 (G:GT)(K:KT)(L:Nat)(hp0:HP)(k1:AV→AV→AV→HP→Eff→KR):Nat→AV→AV→AV→AV→AV→AV→AV→HP→Eff→KR
  | 0,_,_,_,_,_,_,_,_,_=>none
  | m + 1,x0,x4,x5,x7,y7,x8,x9,hp,ef =>
    Ze (Zb .lss .prim x9 x4) fun v21 =>
    ifK v21
    (MM (hp ++ [.cells [(.int .i64 0),(.int .i64 0),(.int .i64 0),(.int .i64 0),(.int .i64 0),(.int .i64 0)] WZ]) fun h23 =>
    ZU G K L hp0 (Wi G K L hp0 (YJ G K L hp0 (Z5 G K L hp0 k1 m))) L x0 x4 x5 y7 x8 x9 (.ptr (hp).length 0) (.int .i64 0) h23 ef)
    (k1 x0 x7 y7 hp ef)
theorem Gy (G:GT)(K:KT)(L:Nat)(hp0:HP)(k1:AV→AV→AV→HP→Eff→KR)  : ∀ m,QH (fun n'=>ZF G 93 hp0.length K Z8 L QK n' (YU Z8 Ye hp0) [(1,(fun e hp ef=>k1 (e 0).rd (e 7).rd (e 7).val hp ef))]) m=fun e hp ef=>Z5 G K L hp0 k1 m (e 0).rd (e 4).rd (e 5).rd (e 7).rd (e 7).val (e 8).rd (e 9).rd hp ef:=by
  intro m
  induction m with
  | zero=>rfl
  | succ m ih =>
    show ZF G 93 hp0.length K Z8 L QK (QH _ m) (YU Z8 Ye hp0) [(1,(fun e hp ef=>k1 (e 0).rd (e 7).rd (e 7).val hp ef))]=_
    rw [ih]
    simp only [QK,Wh,Yq,Yr,Y8]
    rw [Gv G K L hp0 (Z5 G K L hp0 k1 m) _,Gu G K L hp0 (YJ G K L hp0 (Z5 G K L hp0 k1 m)) _ _,Gz G K L hp0 (Wi G K L hp0 (YJ G K L hp0 (Z5 G K L hp0 k1 m))) _ _ _]
    kernel_rfl
theorem Gx (G:GT)(K:KT)(L:Nat)(hp0:HP)(k1:AV→AV→AV→HP→Eff→KR)(zn:XD):ZF G 93 hp0.length K Z8 L JY zn (YU Z8 Ye hp0) [(1,(fun e hp ef=>k1 (e 0).rd (e 7).rd (e 7).val hp ef))]=fun e hp ef=>Z5 G K L hp0 k1 L (e 0).rd (e 4).rd (e 5).rd (e 7).rd (e 7).val (e 8).rd (e 9).rd hp ef:=Gy G K L hp0 k1  L
def Qs (G:GT)(K:KT)(L:Nat)(x0:AV)(hp0:HP):KR :=
  Y1 (K JH [(AV.ro x0)] hp0) fun v0 h1 f2 =>
  Ze (Zm (AV.ro v0) 0) fun v3 =>
  Ze (Zm (AV.ro v0) 1) fun v4 =>
  Ze (Zm (AV.ro v0) 2) fun v5 =>
  Ze (Zb .neq .prim v5 (.int .i64 0)) fun v6 =>
  ifK v6
  (some (Y6 false hp0 (.tup [(AV.nm (.own 6 [])),(AV.nm v5)]) h1 (Zf hp0.length none f2)))
  (Ze (Zb .lss .prim v3 (.int .i64 0)) fun v7 =>
  ifK v7
  (some (Y6 false hp0 (.tup [(AV.nm (.own 6 [])),(AV.nm (.int .i64 8))]) h1 (Zf hp0.length none f2)))
  (Ze (Zb .gtr .prim v3 (.int .i64 50000)) fun v8 =>
  ifK v8
  (some (Y6 false hp0 (.tup [(AV.nm (.own 6 [])),(AV.nm (.int .i64 6))]) h1 (Zf hp0.length none f2)))
  (Z5 G K L hp0 (WL G K L hp0) L (AV.ro x0) v3 v4 (.lst 6 []) (.own 6 []) (.int .i64 0) (.int .i64 0) h1 (Zf hp0.length none f2))))
theorem OJ (G:GT)(K:KT)(L:Nat)(x0:AV)(hp0:HP):fnK G K Z8 L Ye [x0] hp0=Qs G K L x0 hp0:=by
  show ZF G 93 hp0.length K Z8 L JU (YU Z8 Ye hp0) (YU Z8 Ye hp0) [] (RZ [x0]) hp0 none=_
  simp only [JU,Wh,Yq,Yr,Y8]
  rw [Gw G K L hp0  ,Gx G K L hp0 (WL G K L hp0)  _]
  kernel_rfl
theorem Lm {C:Cfg}(h:C.T Vx=some Ye){n:Nat}{x0:AV}{hp:HP}{r:AV×HP×Eff}(hr:Qs C.G (Za C n) C.L x0 hp=some r):Za C (n + 1) Vx [x0] hp=some r:=YQ h (Nat.le_of_ble_eq_true rfl) ((OJ ..).trans hr)
def YN (G:GT)(K:KT)(L:Nat)(hp0:HP)(x3:AV)(x4:AV)(x5:AV)(hp:HP)(ef:Eff):KR :=
  Ze (ZM hp (.int .u8) x4) fun v4 =>
  Ze (ZZ (.arr 10 1) x3 x5) fun v5 =>
  XR (Lt hp0.length v5 v4 hp ef) fun h6 f7 =>
  Ze (Zb .add .prim x5 (.int .i64 1)) fun v8 =>
  Ze (Zb .add .prim x5 (.int .i64 1)) fun v9 =>
  Ze (WY (.arr 10 1) x3 v8 v9) fun v10 =>
  some (Y6 false hp0 v10 h6 f7)
theorem Ug (G:GT)(K:KT)(L:Nat)(hp0:HP)   : ZF G 28 hp0.length K ZN L Vz (YU ZN Yl hp0) (YU ZN Yl hp0) []=fun e hp ef=>YN G K L hp0  (e 3).rd (e 4).rd (e 5).rd hp ef:=by
  kernel_rfl
def Yk (G:GT)(K:KT)(L:Nat)(hp0:HP)(k0:AV→AV→AV→HP→Eff→KR):Nat→AV→AV→AV→HP→Eff→KR
  | 0,_,_,_,_,_=>none
  | m + 1,x3,x4,x5,hp,ef =>
    Ze (Zb .geq .prim x4 (.int .u64 128)) fun v11 =>
    ifK v11
    (Ze (ZM hp (.int .u8) x4) fun v12 =>
    Ze (Zb .or .prim v12 (.int .u8 128)) fun v13 =>
    Ze (ZZ (.arr 10 1) x3 x5) fun v14 =>
    XR (Lt hp0.length v14 v13 hp ef) fun h15 f16 =>
    Ze (Zb .shr .prim x4 (.int .u64 7)) fun v17 =>
    Ze (Zb .add .prim x5 (.int .i64 1)) fun v18 =>
    Yk G K L hp0 k0 m x3 v17 v18 h15 f16)
    (k0 x3 x4 x5 hp ef)
theorem Ui (G:GT)(K:KT)(L:Nat)(hp0:HP)(k0:AV→AV→AV→HP→Eff→KR)  : ∀ m,QH (fun n'=>ZF G 28 hp0.length K ZN L QM n' (YU ZN Yl hp0) [(0,(fun e hp ef=>k0 (e 3).rd (e 4).rd (e 5).rd hp ef))]) m=fun e hp ef=>Yk G K L hp0 k0 m (e 3).rd (e 4).rd (e 5).rd hp ef:=by
  intro m
  induction m with
  | zero=>rfl
  | succ m ih =>
    show ZF G 28 hp0.length K ZN L QM (QH _ m) (YU ZN Yl hp0) [(0,(fun e hp ef=>k0 (e 3).rd (e 4).rd (e 5).rd hp ef))]=_
    rw [ih]
    kernel_rfl
theorem Uh (G:GT)(K:KT)(L:Nat)(hp0:HP)(k0:AV→AV→AV→HP→Eff→KR)(zn:XD):ZF G 28 hp0.length K ZN L V3 zn (YU ZN Yl hp0) [(0,(fun e hp ef=>k0 (e 3).rd (e 4).rd (e 5).rd hp ef))]=fun e hp ef=>Yk G K L hp0 k0 L (e 3).rd (e 4).rd (e 5).rd hp ef:=Ui G K L hp0 k0  L
def Vj (G:GT)(K:KT)(L:Nat)(x0:AV)(hp0:HP):KR :=
  MM (hp0 ++ [.cells [(.int .u8 0),(.int .u8 0),(.int .u8 0),(.int .u8 0),(.int .u8 0),(.int .u8 0),(.int .u8 0),(.int .u8 0),(.int .u8 0),(.int .u8 0)] Nc]) fun h0 =>
  Y1 (K Xy [(AV.ro x0)] h0) fun v1 h2 f3 =>
  Yk G K L hp0 (YN G K L hp0) L (.ptr (hp0).length 0) (AV.ro v1) (.int .i64 0) h2 (Zf hp0.length none f3)
theorem Gn (G:GT)(K:KT)(L:Nat)(x0:AV)(hp0:HP):fnK G K ZN L Yl [x0] hp0=Vj G K L x0 hp0:=by
  show ZF G 28 hp0.length K ZN L Vf (YU ZN Yl hp0) (YU ZN Yl hp0) [] (RZ [x0]) hp0 none=_
  simp only [Vf,Wh,Yq,Yr,Y8]
  rw [Ug G K L hp0  ,Uh G K L hp0 (YN G K L hp0)  _]
  kernel_rfl
theorem H5 {C:Cfg}(h:C.T QW=some Yl){n:Nat}{x0:AV}{hp:HP}{r:AV×HP×Eff}(hr:Vj C.G (Za C n) C.L x0 hp=some r):Za C (n + 1) QW [x0] hp=some r:=YQ h (Nat.le_of_ble_eq_true rfl) ((Gn ..).trans hr)
def VP (G:GT)(K:KT)(L:Nat)(x0 x1:AV)(hp0:HP):KR :=
  Ze (ZR hp0 .slice (AV.ro x0)) fun v0 =>
  Ze (ZR hp0 .slice (AV.ro x1)) fun v1 =>
  Ze (Zb .add .prim v0 v1) fun v2 =>
  XR (PD WE [(.int .u8 0)] v2 hp0) fun v3 h4 =>
  Y1 (copyV hp0.length 1 v3 (AV.ro x0) h4 none) fun v5 h6 f7 =>
  Ze (WH (.slice 1) v3 (some v5) none) fun v8 =>
  Y1 (copyV hp0.length 1 v8 (AV.ro x1) h6 f7) fun v9 h10 f11 =>
  Ze (ZR h10 .slice v3) fun v12 =>
  Ze (ZR h10 .slice v3) fun v13 =>
  Ze (WY (.slice 1) v3 v12 v13) fun v14 =>
  some (Y6 false hp0 v14 h10 f11)
theorem Ia (G:GT)(K:KT)(L:Nat)(x0 x1:AV)(hp0:HP):fnK G K Ld L VJ [x0,x1] hp0=VP G K L x0 x1 hp0:=by
  kernel_rfl
theorem IP {C:Cfg}(h:C.T Xx=some VJ){n:Nat}{x0 x1:AV}{hp:HP}{r:AV×HP×Eff}(hr:VP C.G (Za C n) C.L x0 x1 hp=some r):Za C (n + 1) Xx [x0,x1] hp=some r:=YQ h (Nat.le_of_ble_eq_true rfl) ((Ia ..).trans hr)
def ZK (G:GT)(K:KT)(L:Nat)(hp0:HP)(hp:HP)(ef:Eff):KR :=
  some (Y6 false hp0 (.int .i64 (-1)) hp ef)
theorem QE (G:GT)(K:KT)(L:Nat)(hp0:HP)   : ZF G 19 hp0.length K Zk L Wu (YU Zk Zo hp0) (YU Zk Zo hp0) []=fun e hp ef=>ZK G K L hp0   hp ef:=by
  kernel_rfl
def Zu (G:GT)(K:KT)(L:Nat)(hp0:HP)(k0:HP→Eff→KR):Nat→AV→AV→AV→AV→HP→Eff→KR
  | 0,_,_,_,_,_,_=>none
  | m + 1,x0,x1,x7,x8,hp,ef =>
    Ze (Zb .lss .prim x8 x7) fun v1 =>
    ifK v1
    (Ze (ZZ (.slice 1) x0 x8) fun v2 =>
    Ze (Zt hp v2) fun v3 =>
    Ze (Zb .eql .prim x1 v3) fun v4 =>
    ifK v4
    (some (Y6 false hp0 x8 hp ef))
    (Ze (Zb .add .prim x8 (.int .i64 1)) fun v5 =>
    Zu G K L hp0 k0 m x0 x1 x7 v5 hp ef))
    (k0  hp ef)
theorem QG (G:GT)(K:KT)(L:Nat)(hp0:HP)(k0:HP→Eff→KR)  : ∀ m,QH (fun n'=>ZF G 19 hp0.length K Zk L Yy n' (YU Zk Zo hp0) [(0,(fun e hp ef=>k0  hp ef))]) m=fun e hp ef=>Zu G K L hp0 k0 m (e 0).rd (e 1).rd (e 7).rd (e 8).rd hp ef:=by
  intro m
  induction m with
  | zero=>rfl
  | succ m ih =>
    show ZF G 19 hp0.length K Zk L Yy (QH _ m) (YU Zk Zo hp0) [(0,(fun e hp ef=>k0  hp ef))]=_
    rw [ih]
    kernel_rfl
theorem QF (G:GT)(K:KT)(L:Nat)(hp0:HP)(k0:HP→Eff→KR)(zn:XD):ZF G 19 hp0.length K Zk L Wv zn (YU Zk Zo hp0) [(0,(fun e hp ef=>k0  hp ef))]=fun e hp ef=>Zu G K L hp0 k0 L (e 0).rd (e 1).rd (e 7).rd (e 8).rd hp ef:=QG G K L hp0 k0  L
def YK (G:GT)(K:KT)(L:Nat)(x0 x1:AV)(hp0:HP):KR :=
  Ze (ZR hp0 .slice (AV.ro x0)) fun v0 =>
  Zu G K L hp0 (ZK G K L hp0) L (AV.ro x0) (AV.ro x1) v0 (.int .i64 0) hp0 none
theorem Xh (G:GT)(K:KT)(L:Nat)(x0 x1:AV)(hp0:HP):fnK G K Zk L Zo [x0,x1] hp0=YK G K L x0 x1 hp0:=by
  show ZF G 19 hp0.length K Zk L YE (YU Zk Zo hp0) (YU Zk Zo hp0) [] (RZ [x0,x1]) hp0 none=_
  simp only [YE,Wh,Yq,Yr,Y8]
  rw [QE G K L hp0  ,QF G K L hp0 (ZK G K L hp0)  _]
  kernel_rfl
theorem Xn {C:Cfg}(h:C.T Yj=some Zo){n:Nat}{x0 x1:AV}{hp:HP}{r:AV×HP×Eff}(hr:YK C.G (Za C n) C.L x0 x1 hp=some r):Za C (n + 1) Yj [x0,x1] hp=some r:=YQ h (Nat.le_of_ble_eq_true rfl) ((Xh ..).trans hr)
def Vm (G:GT)(K:KT)(L:Nat)(x0 x1:AV)(hp0:HP):KR :=
  Ze (Zb .geq .prim (AV.ro x0) (.int .i64 0)) fun v0 =>
  Ql v0 true
  (Ze (Zb .leq .prim (AV.ro x0) (AV.ro x1)) fun v1 =>
  some (v1,hp0,none))
  (some (.bool false)) hp0 none fun v2 h3 f4 =>
  some (Y6 false hp0 v2 h3 f4)
theorem GR (G:GT)(K:KT)(L:Nat)(x0 x1:AV)(hp0:HP):fnK G K TN L Vb [x0,x1] hp0=Vm G K L x0 x1 hp0:=by
  kernel_rfl
theorem Iy {C:Cfg}(h:C.T We=some Vb){n:Nat}{x0 x1:AV}{hp:HP}{r:AV×HP×Eff}(hr:Vm C.G (Za C n) C.L x0 x1 hp=some r):Za C (n + 1) We [x0,x1] hp=some r:=YQ h (Nat.le_of_ble_eq_true rfl) ((GR ..).trans hr)
def Bj (G:GT)(K:KT)(L:Nat)(x0:AV)(hp0:HP):KR :=
  Ze (Zb .geq .prim (AV.ro x0) (.int .i64 (-1000000000000))) fun v0 =>
  Ql v0 true
  (Ze (Zb .leq .prim (AV.ro x0) (.int .i64 1000000000000)) fun v1 =>
  some (v1,hp0,none))
  (some (.bool false)) hp0 none fun v2 h3 f4 =>
  some (Y6 false hp0 v2 h3 f4)
theorem NF (G:GT)(K:KT)(L:Nat)(x0:AV)(hp0:HP):fnK G K ZbT L RX [x0] hp0=Bj G K L x0 hp0:=by
  kernel_rfl
theorem Ap {C:Cfg}(h:C.T Oc=some RX){n:Nat}{x0:AV}{hp:HP}{r:AV×HP×Eff}(hr:Bj C.G (Za C n) C.L x0 hp=some r):Za C (n + 1) Oc [x0] hp=some r:=YQ h (Nat.le_of_ble_eq_true rfl) ((NF ..).trans hr)
def Um (G:GT)(K:KT)(L:Nat)(x0 x1:AV)(hp0:HP):KR :=
  Ze (Zb .geq .prim (AV.ro x0) (.int .i64 0)) fun v0 =>
  Ql v0 true
  (Ze (Zb .leq .prim (AV.ro x0) (AV.ro x1)) fun v1 =>
  some (v1,hp0,none))
  (some (.bool false)) hp0 none fun v2 h3 f4 =>
  some (Y6 false hp0 v2 h3 f4)
theorem OM (G:GT)(K:KT)(L:Nat)(x0 x1:AV)(hp0:HP):fnK G K PN L JJ [x0,x1] hp0=Um G K L x0 x1 hp0:=by
  kernel_rfl
theorem Lr {C:Cfg}(h:C.T Qn=some JJ){n:Nat}{x0 x1:AV}{hp:HP}{r:AV×HP×Eff}(hr:Um C.G (Za C n) C.L x0 x1 hp=some r):Za C (n + 1) Qn [x0,x1] hp=some r:=YQ h (Nat.le_of_ble_eq_true rfl) ((OM ..).trans hr)
def Bl (G:GT)(K:KT)(L:Nat)(x0:AV)(hp0:HP):KR :=
  Ze (Zb .geq .prim (AV.ro x0) (.int .i64 (-1000000000000))) fun v0 =>
  Ql v0 true
  (Ze (Zb .leq .prim (AV.ro x0) (.int .i64 1000000000000)) fun v1 =>
  some (v1,hp0,none))
  (some (.bool false)) hp0 none fun v2 h3 f4 =>
  some (Y6 false hp0 v2 h3 f4)
theorem NH (G:GT)(K:KT)(L:Nat)(x0:AV)(hp0:HP):fnK G K ZbU L RY [x0] hp0=Bl G K L x0 hp0:=by
  kernel_rfl
theorem AC {C:Cfg}(h:C.T Oe=some RY){n:Nat}{x0:AV}{hp:HP}{r:AV×HP×Eff}(hr:Bl C.G (Za C n) C.L x0 hp=some r):Za C (n + 1) Oe [x0] hp=some r:=YQ h (Nat.le_of_ble_eq_true rfl) ((NH ..).trans hr)
def Vl (G:GT)(K:KT)(L:Nat)(x0 x1:AV)(hp0:HP):KR :=
  Ze (SX 6 (AV.ro x0)) fun v1 =>
  MM (hp0 ++ [.cells v1 Zl]) fun h0 =>
  Ze (Yh 0 (.ptr (hp0).length 0)) fun v2 =>
  Ze (Zt h0 v2) fun v3 =>
  Ze (Zb .sub .prim v3 (AV.ro x1)) fun v4 =>
  Ze (Yh 1 (.ptr (hp0).length 0)) fun v5 =>
  Ze (Zt h0 v5) fun v6 =>
  Ze (Yh 2 (.ptr (hp0).length 0)) fun v7 =>
  Ze (Zt h0 v7) fun v8 =>
  Ze (Yh 3 (.ptr (hp0).length 0)) fun v9 =>
  Ze (Zt h0 v9) fun v10 =>
  Ze (Yh 4 (.ptr (hp0).length 0)) fun v11 =>
  Ze (Zt h0 v11) fun v12 =>
  Ze (Yh 5 (.ptr (hp0).length 0)) fun v13 =>
  Ze (Zt h0 v13) fun v14 =>
  XR (Tz RP 1 [v4,v6,v8,v10,v12,v14] h0) fun v15 h16 =>
  some (Y6 false hp0 v15 h16 none)
theorem GN (G:GT)(K:KT)(L:Nat)(x0 x1:AV)(hp0:HP):fnK G K TM L Va [x0,x1] hp0=Vl G K L x0 x1 hp0:=by
  kernel_rfl
theorem Iw {C:Cfg}(h:C.T QY=some Va){n:Nat}{x0 x1:AV}{hp:HP}{r:AV×HP×Eff}(hr:Vl C.G (Za C n) C.L x0 x1 hp=some r):Za C (n + 1) QY [x0,x1] hp=some r:=YQ h (Nat.le_of_ble_eq_true rfl) ((GN ..).trans hr)
def WJ (G:GT)(K:KT)(L:Nat)(hp0:HP)(y5:AV)(x6:AV)(hp:HP)(ef:Eff):KR :=
  Ze (ZM hp (.int .u8) x6) fun v6 =>
  XR (Tz WE 1 [v6] hp) fun v7 h8 =>
  Ze (MQ 1 1 y5 (AV.ro v7) h8) fun v9 =>
  some (Y6 false hp0 v9 h8 ef)
theorem Gq (G:GT)(K:KT)(L:Nat)(hp0:HP)   : ZF G 28 hp0.length K Yu L JR (YU Yu YY hp0) (YU Yu YY hp0) []=fun e hp ef=>WJ G K L hp0  (e 5).val (e 6).rd hp ef:=by
  kernel_rfl
def YI (G:GT)(K:KT)(L:Nat)(hp0:HP)(k0:AV→AV→HP→Eff→KR):Nat→AV→AV→HP→Eff→KR
  | 0,_,_,_,_=>none
  | m + 1,y5,x6,hp,ef =>
    Ze (Zb .geq .prim x6 (.int .u64 128)) fun v10 =>
    ifK v10
    (Ze (Zb .rem .prim x6 (.int .u64 128)) fun v11 =>
    Ze (ZM hp (.int .u8) v11) fun v12 =>
    Ze (Zb .add .prim v12 (.int .u8 128)) fun v13 =>
    XR (Tz WE 1 [v13] hp) fun v14 h15 =>
    Ze (MQ 1 1 y5 (AV.ro v14) h15) fun v16 =>
    Ze (Zb .quo .prim x6 (.int .u64 128)) fun v17 =>
    YI G K L hp0 k0 m v16 v17 h15 ef)
    (k0 y5 x6 hp ef)
theorem Gt (G:GT)(K:KT)(L:Nat)(hp0:HP)(k0:AV→AV→HP→Eff→KR)  : ∀ m,QH (fun n'=>ZF G 28 hp0.length K Yu L XE n' (YU Yu YY hp0) [(0,(fun e hp ef=>k0 (e 5).val (e 6).rd hp ef))]) m=fun e hp ef=>YI G K L hp0 k0 m (e 5).val (e 6).rd hp ef:=by
  intro m
  induction m with
  | zero=>rfl
  | succ m ih =>
    show ZF G 28 hp0.length K Yu L XE (QH _ m) (YU Yu YY hp0) [(0,(fun e hp ef=>k0 (e 5).val (e 6).rd hp ef))]=_
    rw [ih]
    kernel_rfl
theorem Gs (G:GT)(K:KT)(L:Nat)(hp0:HP)(k0:AV→AV→HP→Eff→KR)(zn:XD):ZF G 28 hp0.length K Yu L JS zn (YU Yu YY hp0) [(0,(fun e hp ef=>k0 (e 5).val (e 6).rd hp ef))]=fun e hp ef=>YI G K L hp0 k0 L (e 5).val (e 6).rd hp ef:=Gt G K L hp0 k0  L
def V8 (G:GT)(K:KT)(L:Nat)(x0 x1:AV)(hp0:HP):KR :=
  XR (Tz WE 1 [] hp0) fun v0 h1 =>
  Ze (MQ 1 1 v0 (AV.ro x0) h1) fun v2 =>
  Y1 (K Vw [(AV.ro x1)] h1) fun v3 h4 f5 =>
  YI G K L hp0 (WJ G K L hp0) L v2 (AV.ro v3) h4 (Zf hp0.length none f5)
theorem OH (G:GT)(K:KT)(L:Nat)(x0 x1:AV)(hp0:HP):fnK G K Yu L YY [x0,x1] hp0=V8 G K L x0 x1 hp0:=by
  show ZF G 28 hp0.length K Yu L JQ (YU Yu YY hp0) (YU Yu YY hp0) [] (RZ [x0,x1]) hp0 none=_
  simp only [JQ,Wh,Yq,Yr,Y8]
  rw [Gq G K L hp0  ,Gs G K L hp0 (WJ G K L hp0)  _]
  kernel_rfl
theorem Kt {C:Cfg}(h:C.T Qm=some YY){n:Nat}{x0 x1:AV}{hp:HP}{r:AV×HP×Eff}(hr:V8 C.G (Za C n) C.L x0 x1 hp=some r):Za C (n + 1) Qm [x0,x1] hp=some r:=YQ h (Nat.le_of_ble_eq_true rfl) ((OH ..).trans hr)
def YW (G:GT)(K:KT)(L:Nat)(x0:AV)(hp0:HP):KR :=
  Ze (Qw (AV.ro x0)) fun v0 =>
  Ze (Yh 1 v0) fun v1 =>
  Ze (Zt hp0 v1) fun v2 =>
  Ze (Zb .neq .prim v2 (.int .i64 0)) fun v3 =>
  ifK v3
  (some (Y6 false hp0 (.int .i64 0) hp0 none))
  (Ze (Qw (AV.ro x0)) fun v4 =>
  Ze (Yh 0 v4) fun v5 =>
  Ze (Zt hp0 v5) fun v6 =>
  Y1 (K Jm [v6] hp0) fun v7 h8 f9 =>
  Ze (Zm (AV.ro v7) 0) fun v10 =>
  Ze (Zm (AV.ro v7) 1) fun v11 =>
  Ze (Zm (AV.ro v7) 2) fun v12 =>
  Ze (Qw (AV.ro x0)) fun v13 =>
  Ze (Yh 0 v13) fun v14 =>
  Ze (Zt h8 v14) fun v15 =>
  Ze (WH (.slice 1) v15 (some v11) none) fun v16 =>
  Ze (Qw (AV.ro x0)) fun v17 =>
  Ze (Yh 0 v17) fun v18 =>
  XR (Lt hp0.length v18 v16 h8 (Zf hp0.length none f9)) fun h19 f20 =>
  Ze (Qw (AV.ro x0)) fun v21 =>
  Ze (Yh 1 v21) fun v22 =>
  XR (Lt hp0.length v22 v12 h19 f20) fun h23 f24 =>
  some (Y6 false hp0 v10 h23 f24))
theorem Vt (G:GT)(K:KT)(L:Nat)(x0:AV)(hp0:HP):fnK G K J8 L WR [x0] hp0=YW G K L x0 hp0:=by
  kernel_rfl
theorem VH {C:Cfg}(h:C.T Zy=some WR){n:Nat}{x0:AV}{hp:HP}{r:AV×HP×Eff}(hr:YW C.G (Za C n) C.L x0 hp=some r):Za C (n + 1) Zy [x0] hp=some r:=YQ h (Nat.le_of_ble_eq_true rfl) ((Vt ..).trans hr)
def Jw (G:GT)(K:KT)(L:Nat)(x0 x1:AV)(hp0:HP):KR :=
  Ze (ZM hp0 .ofBytes (AV.ro x0)) fun v0 =>
  Ze (ZM hp0 .ofBytes (AV.ro x1)) fun v1 =>
  Ze (Zb .eql .prim v0 v1) fun v2 =>
  some (Y6 false hp0 v2 hp0 none)
theorem IR (G:GT)(K:KT)(L:Nat)(x0 x1:AV)(hp0:HP):fnK G K BU L Jp [x0,x1] hp0=Jw G K L x0 x1 hp0:=by
  kernel_rfl
theorem O5 {C:Cfg}(h:C.T XL=some Jp){n:Nat}{x0 x1:AV}{hp:HP}{r:AV×HP×Eff}(hr:Jw C.G (Za C n) C.L x0 x1 hp=some r):Za C (n + 1) XL [x0,x1] hp=some r:=YQ h (Nat.le_of_ble_eq_true rfl) ((IR ..).trans hr)
def X7 (G:GT)(K:KT)(L:Nat)(hp0:HP)(hp:HP)(ef:Eff):KR :=
  some (Y6 false hp0 (.tup [(AV.nm (.int .i64 0)),(AV.nm (.int .i64 0)),(AV.nm (.int .i64 8))]) hp ef)
theorem OD (G:GT)(K:KT)(L:Nat)(hp0:HP)   : ZF G 48 hp0.length K WO L I4 (YU WO QA hp0) (YU WO QA hp0) []=fun e hp ef=>X7 G K L hp0   hp ef:=by
  kernel_rfl
def YH (G:GT)(K:KT)(L:Nat)(hp0:HP)(k0:HP→Eff→KR):Nat→AV→AV→AV→AV→HP→Eff→KR
  | 0,_,_,_,_,_,_=>none
  | m + 1,x0,x5,x6,x7,hp,ef =>
    Ze (Zb .lss .prim x7 (.int .i64 10)) fun v0 =>
    ifK v0
    (Ze (ZR hp .slice x0) fun v1 =>
    Ze (Zb .geq .prim x7 v1) fun v2 =>
    ifK v2
    (some (Y6 false hp0 (.tup [(AV.nm (.int .i64 0)),(AV.nm (.int .i64 0)),(AV.nm (.int .i64 7))]) hp ef))
    (Ze (ZZ (.slice 1) x0 x7) fun v3 =>
    Ze (Zt hp v3) fun v4 =>
    Ze (ZM hp (.int .u64) v4) fun v5 =>
    Ze (Zb .eql .prim x7 (.int .i64 9)) fun v6 =>
    Ql v6 true
    (Ze (Zb .gtr .prim v5 (.int .u64 1)) fun v7 =>
    some (v7,hp,ef))
    (some (.bool false)) hp ef fun v8 h9 f10 =>
    ifK (AV.ro v8)
    (some (Y6 false hp0 (.tup [(AV.nm (.int .i64 0)),(AV.nm (.int .i64 0)),(AV.nm (.int .i64 8))]) h9 f10))
    (Ze (Zb .rem .prim v5 (.int .u64 128)) fun v11 =>
    Ze (Zb .mul .prim v11 x6) fun v12 =>
    Ze (Zb .add .prim x5 v12) fun v13 =>
    Ze (Zb .mul .prim x6 (.int .u64 128)) fun v14 =>
    Ze (Zb .eql .prim v5 (.int .u64 0)) fun v15 =>
    Ql v15 true
    (Ze (Zb .gtr .prim x7 (.int .i64 0)) fun v16 =>
    some (v16,h9,f10))
    (some (.bool false)) h9 f10 fun v17 h18 f19 =>
    ifK (AV.ro v17)
    (some (Y6 false hp0 (.tup [(AV.nm (.int .i64 0)),(AV.nm (.int .i64 0)),(AV.nm (.int .i64 8))]) h18 f19))
    (Ze (Zb .lss .prim v5 (.int .u64 128)) fun v20 =>
    ifK v20
    (Y1 (K XM [v13] h18) fun v21 h22 f23 =>
    Ze (Zb .add .prim x7 (.int .i64 1)) fun v24 =>
    some (Y6 false hp0 (.tup [(AV.nm v21),(AV.nm v24),(AV.nm (.int .i64 0))]) h22 (Zf hp0.length f19 f23)))
    (Ze (Zb .add .prim x7 (.int .i64 1)) fun v25 =>
    YH G K L hp0 k0 m x0 v13 v14 v25 h18 f19)))))
    (k0  hp ef)
theorem OG (G:GT)(K:KT)(L:Nat)(hp0:HP)(k0:HP→Eff→KR)  : ∀ m,QH (fun n'=>ZF G 48 hp0.length K WO L Jv n' (YU WO QA hp0) [(0,(fun e hp ef=>k0  hp ef))]) m=fun e hp ef=>YH G K L hp0 k0 m (e 0).rd (e 5).rd (e 6).rd (e 7).rd hp ef:=by
  intro m
  induction m with
  | zero=>rfl
  | succ m ih =>
    show ZF G 48 hp0.length K WO L Jv (QH _ m) (YU WO QA hp0) [(0,(fun e hp ef=>k0  hp ef))]=_
    rw [ih]
    kernel_rfl
theorem OE (G:GT)(K:KT)(L:Nat)(hp0:HP)(k0:HP→Eff→KR)(zn:XD):ZF G 48 hp0.length K WO L I5 zn (YU WO QA hp0) [(0,(fun e hp ef=>k0  hp ef))]=fun e hp ef=>YH G K L hp0 k0 L (e 0).rd (e 5).rd (e 6).rd (e 7).rd hp ef:=OG G K L hp0 k0  L
def DD (G:GT)(K:KT)(L:Nat)(x0:AV)(hp0:HP):KR :=
  YH G K L hp0 (X7 G K L hp0) L (AV.ro x0) (.int .u64 0) (.int .u64 1) (.int .i64 0) hp0 none
theorem DF (G:GT)(K:KT)(L:Nat)(x0:AV)(hp0:HP):fnK G K WO L QA [x0] hp0=DD G K L x0 hp0:=by
  show ZF G 48 hp0.length K WO L O8 (YU WO QA hp0) (YU WO QA hp0) [] (RZ [x0]) hp0 none=_
  simp only [O8,Wh,Yq,Yr,Y8]
  rw [OD G K L hp0  ,OE G K L hp0 (X7 G K L hp0)  _]
  kernel_rfl
theorem Sr {C:Cfg}(h:C.T JH=some QA){n:Nat}{x0:AV}{hp:HP}{r:AV×HP×Eff}(hr:DD C.G (Za C n) C.L x0 hp=some r):Za C (n + 1) JH [x0] hp=some r:=YQ h (Nat.le_of_ble_eq_true rfl) ((DF ..).trans hr)
def VQ (G:GT)(K:KT)(L:Nat)(x0:AV)(hp0:HP):KR :=
  Ze (ZM hp0 (.int .u64) (AV.ro x0)) fun v0 =>
  Ze (Zb .shl .prim v0 (.int .u64 1)) fun v1 =>
  Ze (Zb .shr .prim (AV.ro x0) (.int .u64 63)) fun v2 =>
  Ze (ZM hp0 (.int .u64) v2) fun v3 =>
  Ze (Zb .xor .prim v1 v3) fun v4 =>
  some (Y6 false hp0 v4 hp0 none)
theorem Ib (G:GT)(K:KT)(L:Nat)(x0:AV)(hp0:HP):fnK G K Le L VK [x0] hp0=VQ G K L x0 hp0:=by
  kernel_rfl
theorem IQ {C:Cfg}(h:C.T Xy=some VK){n:Nat}{x0:AV}{hp:HP}{r:AV×HP×Eff}(hr:VQ C.G (Za C n) C.L x0 hp=some r):Za C (n + 1) Xy [x0] hp=some r:=YQ h (Nat.le_of_ble_eq_true rfl) ((Ib ..).trans hr)
def V9 (G:GT)(K:KT)(L:Nat)(x0:AV)(hp0:HP):KR :=
  Ze (Zb .lss .prim (AV.ro x0) (.int .i64 0)) fun v0 =>
  ifK v0
  (Ze (Zb .add .prim (AV.ro x0) (.int .i64 1)) fun v1 =>
  Ze (XH .neg v1) fun v2 =>
  Ze (ZM hp0 (.int .u64) v2) fun v3 =>
  Ze (Zb .mul .prim (.int .u64 2) v3) fun v4 =>
  Ze (Zb .add .prim v4 (.int .u64 1)) fun v5 =>
  some (Y6 false hp0 v5 hp0 none))
  (Ze (ZM hp0 (.int .u64) (AV.ro x0)) fun v6 =>
  Ze (Zb .mul .prim (.int .u64 2) v6) fun v7 =>
  some (Y6 false hp0 v7 hp0 none))
theorem OI (G:GT)(K:KT)(L:Nat)(x0:AV)(hp0:HP):fnK G K PM L JI [x0] hp0=V9 G K L x0 hp0:=by
  kernel_rfl
theorem Ll {C:Cfg}(h:C.T Vw=some JI){n:Nat}{x0:AV}{hp:HP}{r:AV×HP×Eff}(hr:V9 C.G (Za C n) C.L x0 hp=some r):Za C (n + 1) Vw [x0] hp=some r:=YQ h (Nat.le_of_ble_eq_true rfl) ((OI ..).trans hr)
def QB (G:GT)(K:KT)(L:Nat)(hp0:HP)(hp:HP)(ef:Eff):KR :=
  some (Y6 false hp0 (.tup [(AV.nm (.int .i64 0)),(AV.nm (.int .i64 0)),(AV.nm (.int .i64 8))]) hp ef)
theorem H7 (G:GT)(K:KT)(L:Nat)(hp0:HP)   : ZF G 47 hp0.length K YA L UX (YU YA WF hp0) (YU YA WF hp0) []=fun e hp ef=>QB G K L hp0   hp ef:=by
  kernel_rfl
def Yn (G:GT)(K:KT)(L:Nat)(hp0:HP)(k0:HP→Eff→KR):Nat→AV→AV→AV→HP→Eff→KR
  | 0,_,_,_,_,_=>none
  | m + 1,x0,x5,x8,hp,ef =>
    Ze (Zb .lss .prim x8 (.int .i64 10)) fun v0 =>
    ifK v0
    (Ze (ZR hp .slice x0) fun v1 =>
    Ze (Zb .geq .prim x8 v1) fun v2 =>
    ifK v2
    (some (Y6 false hp0 (.tup [(AV.nm (.int .i64 0)),(AV.nm (.int .i64 0)),(AV.nm (.int .i64 7))]) hp ef))
    (Ze (ZZ (.slice 1) x0 x8) fun v3 =>
    Ze (Zt hp v3) fun v4 =>
    Ze (Zb .eql .prim x8 (.int .i64 9)) fun v5 =>
    Ql v5 true
    (Ze (Zb .gtr .prim v4 (.int .u8 1)) fun v6 =>
    some (v6,hp,ef))
    (some (.bool false)) hp ef fun v7 h8 f9 =>
    ifK (AV.ro v7)
    (some (Y6 false hp0 (.tup [(AV.nm (.int .i64 0)),(AV.nm (.int .i64 0)),(AV.nm (.int .i64 8))]) h8 f9))
    (Ze (Zb .andNot .prim v4 (.int .u8 128)) fun v10 =>
    Ze (ZM h8 (.int .u64) v10) fun v11 =>
    Ze (Zb .mul .prim (.int .i64 7) x8) fun v12 =>
    Ze (Zb .shl .prim v11 v12) fun v13 =>
    Ze (Zb .or .prim x5 v13) fun v14 =>
    Ze (Zb .and .prim v4 (.int .u8 128)) fun v15 =>
    Ze (Zb .neq .prim v15 (.int .u8 0)) fun v16 =>
    ifK v16
    (Ze (Zb .add .prim x8 (.int .i64 1)) fun v17 =>
    Yn G K L hp0 k0 m x0 v14 v17 h8 f9)
    (Ze (Zb .eql .prim v4 (.int .u8 0)) fun v18 =>
    Ql v18 true
    (Ze (Zb .gtr .prim x8 (.int .i64 0)) fun v19 =>
    some (v19,h8,f9))
    (some (.bool false)) h8 f9 fun v20 h21 f22 =>
    ifK (AV.ro v20)
    (some (Y6 false hp0 (.tup [(AV.nm (.int .i64 0)),(AV.nm (.int .i64 0)),(AV.nm (.int .i64 8))]) h21 f22))
    (Y1 (K QX [v14] h21) fun v23 h24 f25 =>
    Ze (Zb .add .prim x8 (.int .i64 1)) fun v26 =>
    some (Y6 false hp0 (.tup [(AV.nm v23),(AV.nm v26),(AV.nm (.int .i64 0))]) h24 (Zf hp0.length f22 f25)))))))
    (k0  hp ef)
theorem H9 (G:GT)(K:KT)(L:Nat)(hp0:HP)(k0:HP→Eff→KR)  : ∀ m,QH (fun n'=>ZF G 47 hp0.length K YA L Ve n' (YU YA WF hp0) [(0,(fun e hp ef=>k0  hp ef))]) m=fun e hp ef=>Yn G K L hp0 k0 m (e 0).rd (e 5).rd (e 8).rd hp ef:=by
  intro m
  induction m with
  | zero=>rfl
  | succ m ih =>
    show ZF G 47 hp0.length K YA L Ve (QH _ m) (YU YA WF hp0) [(0,(fun e hp ef=>k0  hp ef))]=_
    rw [ih]
    kernel_rfl
theorem H8 (G:GT)(K:KT)(L:Nat)(hp0:HP)(k0:HP→Eff→KR)(zn:XD):ZF G 47 hp0.length K YA L UY zn (YU YA WF hp0) [(0,(fun e hp ef=>k0  hp ef))]=fun e hp ef=>Yn G K L hp0 k0 L (e 0).rd (e 5).rd (e 8).rd hp ef:=H9 G K L hp0 k0  L
def OC (G:GT)(K:KT)(L:Nat)(x0:AV)(hp0:HP):KR :=
  Yn G K L hp0 (QB G K L hp0) L (AV.ro x0) (.int .u64 0) (.int .i64 0) hp0 none
theorem MZ (G:GT)(K:KT)(L:Nat)(x0:AV)(hp0:HP):fnK G K YA L WF [x0] hp0=OC G K L x0 hp0:=by
  show ZF G 47 hp0.length K YA L KE (YU YA WF hp0) (YU YA WF hp0) [] (RZ [x0]) hp0 none=_
  simp only [KE,Wh,Yq,Yr,Y8]
  rw [H7 G K L hp0  ,H8 G K L hp0 (QB G K L hp0)  _]
  kernel_rfl
theorem Bi {C:Cfg}(h:C.T Jm=some WF){n:Nat}{x0:AV}{hp:HP}{r:AV×HP×Eff}(hr:OC C.G (Za C n) C.L x0 hp=some r):Za C (n + 1) Jm [x0] hp=some r:=YQ h (Nat.le_of_ble_eq_true rfl) ((MZ ..).trans hr)
def Jz (G:GT)(K:KT)(L:Nat)(x0:AV)(hp0:HP):KR :=
  Ze (Zb .rem .prim (AV.ro x0) (.int .u64 2)) fun v0 =>
  Ze (Zb .eql .prim v0 (.int .u64 1)) fun v1 =>
  ifK v1
  (Ze (Zb .quo .prim (AV.ro x0) (.int .u64 2)) fun v2 =>
  Ze (ZM hp0 (.int .i64) v2) fun v3 =>
  Ze (XH .neg v3) fun v4 =>
  Ze (Zb .sub .prim v4 (.int .i64 1)) fun v5 =>
  some (Y6 false hp0 v5 hp0 none))
  (Ze (Zb .quo .prim (AV.ro x0) (.int .u64 2)) fun v6 =>
  Ze (ZM hp0 (.int .i64) v6) fun v7 =>
  some (Y6 false hp0 v7 hp0 none))
theorem IV (G:GT)(K:KT)(L:Nat)(x0:AV)(hp0:HP):fnK G K BX L Jr [x0] hp0=Jz G K L x0 hp0:=by
  kernel_rfl
theorem TQ {C:Cfg}(h:C.T XM=some Jr){n:Nat}{x0:AV}{hp:HP}{r:AV×HP×Eff}(hr:Jz C.G (Za C n) C.L x0 hp=some r):Za C (n + 1) XM [x0] hp=some r:=YQ h (Nat.le_of_ble_eq_true rfl) ((IV ..).trans hr)
def Vk (G:GT)(K:KT)(L:Nat)(x0:AV)(hp0:HP):KR :=
  Ze (Zb .shr .prim (AV.ro x0) (.int .u64 1)) fun v0 =>
  Ze (ZM hp0 (.int .i64) v0) fun v1 =>
  Ze (Zb .and .prim (AV.ro x0) (.int .u64 1)) fun v2 =>
  Ze (ZM hp0 (.int .i64) v2) fun v3 =>
  Ze (XH .neg v3) fun v4 =>
  Ze (Zb .xor .prim v1 v4) fun v5 =>
  some (Y6 false hp0 v5 hp0 none)
theorem Gp (G:GT)(K:KT)(L:Nat)(x0:AV)(hp0:HP):fnK G K TL L XZ [x0] hp0=Vk G K L x0 hp0:=by
  kernel_rfl
theorem H6 {C:Cfg}(h:C.T QX=some XZ){n:Nat}{x0:AV}{hp:HP}{r:AV×HP×Eff}(hr:Vk C.G (Za C n) C.L x0 hp=some r):Za C (n + 1) QX [x0] hp=some r:=YQ h (Nat.le_of_ble_eq_true rfl) ((Gp ..).trans hr)
end Go.Proofs.YtdchnngpjjcchaaDoor
end
