import Derived.Test.YtgjcjbhhhlelnaaGreatDoorHEv10
set_option linter.all false
section
namespace Go.Proofs.YtgjcjbhhhlelnaaGreatDoor
open Go Go.Proofs.YtgjcjbhhhlelnaaGreatDoor.Abs
set_option maxRecDepth 100000
set_option maxHeartbeats 0
def Ej:FuncId→List Nat:=fun _=>[]
def Zl6:FuncId→List Nat:=fun x=>if x=LQ then [1001000] else []
def ZeQ:Wn :=
 .seq (.region false [⟨(some 0),.mv (.const (.bool false)),none⟩])
 (.seq (.region false [⟨(some 9),.call (.const (.fn 18 [] [])) [(.inr (.const (.int .i64 5))),(.inr (.const (.int .i64 2)))],none⟩,
   ⟨(some 8),.mv (.tmp 9),none⟩,
   ⟨(some 10),.extract (.tmp 8) 0,none⟩,
   ⟨(some 11),.extract (.tmp 8) 1,none⟩,
   ⟨(some 1),.take 10,none⟩,
   ⟨(some 2),.take 11,none⟩])
  (.seq (.region false [⟨(some 13),.call (.const (.fn 18 [] [])) [(.inr (.const (.int .i64 3))),(.inr (.const (.int .i64 4)))],none⟩,
    ⟨(some 12),.mv (.tmp 13),none⟩,
    ⟨(some 14),.extract (.tmp 12) 0,none⟩,
    ⟨(some 15),.extract (.tmp 12) 1,none⟩,
    ⟨(some 3),.take 14,none⟩,
    ⟨(some 4),.take 15,none⟩])
  (.seq (.region false [⟨(some 17),.call (.const (.fn 24 [] [])) [],none⟩,
    ⟨(some 18),.lit 3 1 [(.const (.int .i64 0)),(.const (.int .i64 0)),(.const (.int .i64 1))],none⟩,
    ⟨(some 19),.call (.const (.fn 11 [] [])) [(.inr (.tmp 17)),(.inr (.tmp 18))],none⟩,
    ⟨(some 16),.mv (.tmp 19),none⟩,
    ⟨(some 20),.extract (.tmp 16) 0,none⟩,
    ⟨(some 21),.extract (.tmp 16) 1,none⟩,
    ⟨(some 5),.take 20,none⟩,
    ⟨(some 6),.take 21,none⟩])
   (.seq (.region false [⟨(some 22),.call (.const (.fn 24 [] [])) [],none⟩,
     ⟨(some 23),.call (.const (.fn 21 [] [])) [(.inr (.tmp 22))],none⟩,
     ⟨(some 7),.take 23,none⟩])
   (.seq (.seq (.region false [⟨(some 24),.mv (.tmp 2),none⟩,
      ⟨(some 25),.bin .neq .prim (.tmp 24) (.const (.int .i64 0)),none⟩,
      ⟨(some 26),.mv (.tmp 25),none⟩,
      ⟨(some 27),.mv (.tmp 4),(some (26,false))⟩,
      ⟨(some 28),.bin .neq .prim (.tmp 27) (.const (.int .i64 2)),(some (26,false))⟩,
      ⟨(some 29),.pick (.tmp 26) (.const (.bool true)) (.tmp 28),none⟩,
      ⟨(some 30),.mv (.tmp 29),none⟩,
      ⟨(some 31),.mv (.tmp 1),(some (30,false))⟩,
      ⟨(some 32),.lit 3 1 [(.const (.int .i64 0)),(.const (.int .i64 0)),(.const (.int .i64 0)),(.const (.int .i64 1)),(.const (.int .i64 1))],(some (30,false))⟩,
      ⟨(some 33),.call (.const (.fn 20 [] [])) [(.inr (.tmp 31)),(.inr (.tmp 32))],(some (30,false))⟩,
      ⟨(some 34),.un .not (.tmp 33),(some (30,false))⟩,
      ⟨(some 35),.pick (.tmp 30) (.const (.bool true)) (.tmp 34),none⟩,
      ⟨(some 36),.mv (.tmp 35),none⟩,
      ⟨(some 37),.mv (.tmp 5),(some (36,false))⟩,
      ⟨(some 38),.bin .neq .prim (.tmp 37) (.const (.int .i64 3)),(some (36,false))⟩,
      ⟨(some 39),.pick (.tmp 36) (.const (.bool true)) (.tmp 38),none⟩,
      ⟨(some 40),.mv (.tmp 39),none⟩,
      ⟨(some 41),.mv (.tmp 6),(some (40,false))⟩,
      ⟨(some 42),.un .not (.tmp 41),(some (40,false))⟩,
      ⟨(some 43),.pick (.tmp 40) (.const (.bool true)) (.tmp 42),none⟩,
      ⟨(some 44),.mv (.tmp 43),none⟩,
      ⟨(some 45),.mv (.tmp 7),(some (44,false))⟩,
      ⟨(some 46),.len .slice (.tmp 45),(some (44,false))⟩,
      ⟨(some 47),.bin .neq .prim (.tmp 46) (.const (.int .i64 3)),(some (44,false))⟩,
      ⟨(some 48),.pick (.tmp 44) (.const (.bool true)) (.tmp 47),none⟩])
    (.cond (.tmp 48) (.seq (.region false [⟨(some 0),.mv (.const (.bool false)),none⟩])
     (.ret))
     (.skip)))
    (.seq (.seq (.region false [⟨(some 49),.mv (.tmp 7),none⟩,
      ⟨(some 50),.ia (.slice 1) (.tmp 49) (.const (.int .i64 0)),none⟩,
      ⟨(some 51),.ldc (.tmp 50),none⟩,
      ⟨(some 52),.lit 3 1 [(.const (.int .i64 0)),(.const (.int .i64 4)),(.const (.int .i64 7))],none⟩,
      ⟨(some 53),.call (.const (.fn 20 [] [])) [(.inr (.tmp 51)),(.inr (.tmp 52))],none⟩,
      ⟨(some 54),.un .not (.tmp 53),none⟩,
      ⟨(some 55),.mv (.tmp 54),none⟩,
      ⟨(some 56),.mv (.tmp 7),(some (55,false))⟩,
      ⟨(some 57),.ia (.slice 1) (.tmp 56) (.const (.int .i64 1)),(some (55,false))⟩,
      ⟨(some 58),.ldc (.tmp 57),(some (55,false))⟩,
      ⟨(some 59),.lit 3 1 [(.const (.int .i64 (-1))),(.const (.int .i64 0)),(.const (.int .i64 3))],(some (55,false))⟩,
      ⟨(some 60),.call (.const (.fn 20 [] [])) [(.inr (.tmp 58)),(.inr (.tmp 59))],(some (55,false))⟩,
      ⟨(some 61),.un .not (.tmp 60),(some (55,false))⟩,
      ⟨(some 62),.pick (.tmp 55) (.const (.bool true)) (.tmp 61),none⟩,
      ⟨(some 63),.mv (.tmp 62),none⟩,
      ⟨(some 64),.mv (.tmp 7),(some (63,false))⟩,
      ⟨(some 65),.ia (.slice 1) (.tmp 64) (.const (.int .i64 2)),(some (63,false))⟩,
      ⟨(some 66),.ldc (.tmp 65),(some (63,false))⟩,
      ⟨(some 67),.lit 3 1 [(.const (.int .i64 (-1))),(.const (.int .i64 (-1))),(.const (.int .i64 0))],(some (63,false))⟩,
      ⟨(some 68),.call (.const (.fn 20 [] [])) [(.inr (.tmp 66)),(.inr (.tmp 67))],(some (63,false))⟩,
      ⟨(some 69),.un .not (.tmp 68),(some (63,false))⟩,
      ⟨(some 70),.pick (.tmp 63) (.const (.bool true)) (.tmp 69),none⟩])
     (.cond (.tmp 70) (.seq (.region false [⟨(some 0),.mv (.const (.bool false)),none⟩])
      (.ret))
     (.skip)))
    (.seq (.region false [⟨(some 71),.call (.const (.fn 24 [] [])) [],none⟩,
      ⟨(some 72),.lit 3 1 [(.const (.int .i64 1)),(.const (.int .i64 0)),(.const (.int .i64 1))],none⟩,
      ⟨(some 73),.call (.const (.fn 13 [] [])) [(.inr (.tmp 71)),(.inr (.tmp 72))],none⟩,
      ⟨(some 74),.bin .eql .prim (.tmp 73) (.const (.int .i64 0)),none⟩,
      ⟨(some 75),.mv (.tmp 74),none⟩,
      ⟨(some 76),.call (.const (.fn 24 [] [])) [],(some (75,true))⟩,
      ⟨(some 77),.lit 3 1 [(.const (.int .i64 0)),(.const (.int .i64 2)),(.const (.int .i64 0))],(some (75,true))⟩,
      ⟨(some 78),.call (.const (.fn 13 [] [])) [(.inr (.tmp 76)),(.inr (.tmp 77))],(some (75,true))⟩,
      ⟨(some 79),.bin .eql .prim (.tmp 78) (.const (.int .i64 12)),(some (75,true))⟩,
      ⟨(some 80),.pick (.tmp 75) (.tmp 79) (.const (.bool false)),none⟩,
      ⟨(some 81),.mv (.tmp 80),none⟩,
      ⟨(some 82),.call (.const (.fn 24 [] [])) [],(some (81,true))⟩,
      ⟨(some 83),.lit 3 1 [(.const (.int .i64 0)),(.const (.int .i64 16)),(.const (.int .i64 0))],(some (81,true))⟩,
      ⟨(some 84),.call (.const (.fn 13 [] [])) [(.inr (.tmp 82)),(.inr (.tmp 83))],(some (81,true))⟩,
      ⟨(some 85),.bin .eql .prim (.tmp 84) (.const (.int .i64 2)),(some (81,true))⟩,
      ⟨(some 86),.pick (.tmp 81) (.tmp 85) (.const (.bool false)),none⟩,
      ⟨(some 87),.mv (.tmp 86),none⟩,
      ⟨(some 88),.call (.const (.fn 24 [] [])) [],(some (87,true))⟩,
      ⟨(some 89),.lit 3 1 [(.const (.int .i64 0))],(some (87,true))⟩,
      ⟨(some 90),.call (.const (.fn 13 [] [])) [(.inr (.tmp 88)),(.inr (.tmp 89))],(some (87,true))⟩,
      ⟨(some 91),.bin .eql .prim (.tmp 90) (.const (.int .i64 8)),(some (87,true))⟩,
      ⟨(some 92),.pick (.tmp 87) (.tmp 91) (.const (.bool false)),none⟩,
      ⟨(some 93),.mv (.tmp 92),none⟩,
      ⟨(some 94),.call (.const (.fn 24 [] [])) [],(some (93,true))⟩,
      ⟨(some 95),.lit 3 1 [(.const (.int .i64 0)),(.const (.int .i64 0)),(.const (.int .i64 1))],(some (93,true))⟩,
      ⟨(some 96),.call (.const (.fn 16 [] [])) [(.inr (.tmp 94)),(.inr (.tmp 95))],(some (93,true))⟩,
      ⟨(some 97),.build [(.int .i64 0),(.int .i64 0),(.int .i64 0)] [(0,1,(.const (.int .i64 1))),(1,1,(.const (.int .i64 2))),(2,1,(.const (.int .i64 3)))],(some (93,true))⟩,
      ⟨(some 98),.lit 36 3 [(.tmp 97)],(some (93,true))⟩,
      ⟨(some 99),.call (.const (.fn 15 [] [])) [(.inr (.tmp 96)),(.inr (.tmp 98))],(some (93,true))⟩,
      ⟨(some 100),.pick (.tmp 93) (.tmp 99) (.const (.bool false)),none⟩,
      ⟨(some 0),.take 100,none⟩])
     (.ret))))))))
def NC:AFn:=⟨101,[.tmp 0],ZeQ,false⟩
theorem Zgh:Zxy Tryz.prog Ej Tryz.f10=some NC:=by kernel_rfl
theorem Zfp:(Tryz.f10.name == "runtime.NumGoroutine")=false:=by kernel_rfl
def ZeR:Wn :=
 .seq (.region false [⟨(some 0),.mk 25 [(.str []),(.own 14 []),(.own 3 [])],none⟩])
 (.seq (.region false [⟨(some 1),.call (.const (.fn 32 [] [])) [(.inr (.const (.str [97])))],none⟩,
   ⟨(some 2),.call (.const (.fn 32 [] [])) [(.inr (.const (.str [98])))],none⟩,
   ⟨(some 3),.call (.const (.fn 32 [] [])) [(.inr (.const (.str [99])))],none⟩,
   ⟨(some 4),.lit 65 14 [(.tmp 1),(.tmp 2),(.tmp 3)],none⟩,
   ⟨(some 5),.build [(.int .i64 0),(.int .i64 0),(.int .i64 0)] [(0,1,(.const (.int .i64 0))),(1,1,(.const (.int .i64 1))),(2,1,(.const (.int .i64 4)))],none⟩,
   ⟨(some 6),.build [(.int .i64 0),(.int .i64 0),(.int .i64 0)] [(0,1,(.const (.int .i64 1))),(1,1,(.const (.int .i64 2))),(2,1,(.const (.int .i64 3)))],none⟩,
   ⟨(some 7),.lit 36 3 [(.tmp 5),(.tmp 6)],none⟩,
   ⟨(some 8),.build [(.str []),(.own 14 []),(.own 3 [])] [(0,1,(.const (.str [112]))),(1,1,(.tmp 4)),(2,1,(.tmp 7))],none⟩,
   ⟨none,.st 3 (.tmp 0) (.tmp 8),none⟩])
  (.ret))
def ND:AFn:=⟨9,[.agg 0 3],ZeR,true⟩
theorem Zgi:cFn Tryz.prog Zl6 Tryz.f24=some ND:=by kernel_rfl
theorem Zfq:(Tryz.f24.name == "runtime.NumGoroutine")=false:=by kernel_rfl
def ZgB:Wn :=
 .seq (.region false [⟨(some 2),.mk 65 [(.str []),(.own 3 []),(.own 17 []),(.own 3 []),(.own 3 []),(.own 1 []),(.own 1 []),(.own 1 []),(.own 1 []),(.own 1 []),(.own 4 []),(.own 5 []),(.own 3 []),(.own 4 [])],none⟩])
 (.seq (.region false [⟨(some 3),.mv (.tmp 0),none⟩,
   ⟨(some 4),.build [(.str []),(.own 3 []),(.own 17 []),(.own 3 []),(.own 3 []),(.own 1 []),(.own 1 []),(.own 1 []),(.own 1 []),(.own 1 []),(.own 4 []),(.own 5 []),(.own 3 [])] [(0,1,(.tmp 3))],none⟩,
   ⟨(some 5),.build [(.str []),(.own 3 []),(.own 17 []),(.own 3 []),(.own 3 []),(.own 1 []),(.own 1 []),(.own 1 []),(.own 1 []),(.own 1 []),(.own 4 []),(.own 5 []),(.own 3 []),(.own 4 [])] [(0,13,(.tmp 4))],none⟩,
   ⟨none,.st 14 (.tmp 2) (.tmp 5),none⟩])
  (.ret))
def Fj:AFn:=⟨6,[.agg 2 14],ZgB,false⟩
theorem Zih:cFn Tryz.prog Ej Tryz.f32=some Fj:=by kernel_rfl
theorem Zhc:(Tryz.f32.name == "runtime.NumGoroutine")=false:=by kernel_rfl
end Go.Proofs.YtgjcjbhhhlelnaaGreatDoor
end
section
namespace Go.Proofs.YtgjcjbhhhlelnaaGreatDoor
open Go Go.Proofs.YtgjcjbhhhlelnaaGreatDoor.Abs
set_option maxRecDepth 100000
set_option maxHeartbeats 0
def U1:Wn :=
 .seq (.seq (.region false [⟨(some 34),.mv (.tmp 8),none⟩,
   ⟨(some 35),.mv (.tmp 7),none⟩,
   ⟨(some 36),.len .slice (.tmp 35),none⟩,
   ⟨(some 37),.bin .lss .prim (.tmp 34) (.tmp 36),none⟩])
  (.cond (.tmp 37) (.skip)
  (.exit 0)))
 (.block 1 (.region true [⟨(some 38),.mv (.tmp 8),none⟩,
   ⟨(some 39),.mv (.tmp 7),none⟩,
   ⟨(some 40),.mv (.tmp 8),none⟩,
   ⟨(some 41),.slice (.slice 1) (.tmp 39) (some (.tmp 40)) none,none⟩,
   ⟨(some 42),.mv (.tmp 7),none⟩,
   ⟨(some 43),.mv (.tmp 8),none⟩,
   ⟨(some 44),.slice (.slice 1) (.tmp 42) none (some (.tmp 43)),none⟩,
   ⟨(some 45),.copy 1 (.tmp 41) (.tmp 44),none⟩,
   ⟨(some 46),.bin .add .prim (.tmp 38) (.tmp 45),none⟩,
   ⟨(some 8),.take 46,none⟩]))
def UR:Wn:=.loop U1
def UQ:Wn :=
 .seq (.region false [⟨(some 47),.take 7,none⟩,
   ⟨(some 4),.take 47,none⟩])
 (.ret)
def UO:Wn :=
 .seq (.region false [⟨(some 28),.mv (.tmp 6),none⟩,
   ⟨(some 29),.conv (.int .i64) (.tmp 28),none⟩,
   ⟨(some 30),.mksl 3 [(.int .i64 0)] (.tmp 29),none⟩,
   ⟨(some 7),.take 30,none⟩])
 (.seq (.region false [⟨(some 31),.mv (.tmp 7),none⟩,
   ⟨(some 32),.mv (.tmp 0),none⟩,
   ⟨(some 33),.copy 1 (.tmp 31) (.tmp 32),none⟩,
   ⟨(some 8),.take 33,none⟩])
  (.seq (.block 0 (UR))
  UQ))
def UN:Wn :=
 .seq (.region false [⟨(some 13),.mv (.tmp 0),none⟩,
   ⟨(some 14),.len .slice (.tmp 13),none⟩,
   ⟨(some 15),.conv (.int .u64) (.tmp 14),none⟩,
   ⟨(some 16),.mv (.tmp 1),none⟩,
   ⟨(some 17),.conv (.int .u64) (.tmp 16),none⟩,
   ⟨(some 18),.call (.const (.fn 44 [] [])) [(.inr (.tmp 15)),(.inr (.tmp 17))],none⟩,
   ⟨(some 12),.mv (.tmp 18),none⟩,
   ⟨(some 19),.extract (.tmp 12) 0,none⟩,
   ⟨(some 20),.extract (.tmp 12) 1,none⟩,
   ⟨(some 5),.take 19,none⟩,
   ⟨(some 6),.take 20,none⟩])
 (.seq (.seq (.region false [⟨(some 21),.mv (.tmp 5),none⟩,
    ⟨(some 22),.bin .gtr .prim (.tmp 21) (.const (.int .u64 0)),none⟩,
    ⟨(some 23),.mv (.tmp 22),none⟩,
    ⟨(some 24),.mv (.tmp 6),(some (23,false))⟩,
    ⟨(some 25),.bin .gtr .prim (.tmp 24) (.const (.int .u64 9223372036854775807)),(some (23,false))⟩,
    ⟨(some 26),.pick (.tmp 23) (.const (.bool true)) (.tmp 25),none⟩])
  (.cond (.tmp 26) (.region false [⟨(some 27),.bad,none⟩,
    ⟨none,.bad,none⟩])
   (.skip)))
  UO)
def Io:Wn :=
 .seq (.region false [⟨(some 4),.mv (.const (.own 1 [])),none⟩])
 (.seq (.seq (.region false [⟨(some 9),.mv (.tmp 1),none⟩,
    ⟨(some 10),.bin .lss .prim (.tmp 9) (.const (.int .i64 0)),none⟩])
  (.cond (.tmp 10) (.region false [⟨(some 11),.bad,none⟩,
    ⟨none,.bad,none⟩])
   (.skip)))
  UN)
def XW:AFn:=⟨48,[.tmp 4],Io,true⟩
theorem Iz:cFn Tryz.prog Zl6 Tryz.f28=some XW:=by kernel_rfl
theorem Iy:(Tryz.f28.name == "runtime.NumGoroutine")=false:=by kernel_rfl
def Zb7:Wn :=
 .seq (.region false [⟨(some 4),.mv (.const (.int .u64 0)),none⟩,
   ⟨(some 5),.mv (.const (.int .u64 0)),none⟩])
 (.seq (.cond (.const (.bool false)) (.seq (.region false [⟨(some 11),.mv (.tmp 0),none⟩,
    ⟨(some 12),.conv (.int .u32) (.tmp 11),none⟩,
    ⟨(some 13),.mv (.tmp 1),none⟩,
    ⟨(some 14),.conv (.int .u32) (.tmp 13),none⟩,
    ⟨(some 15),.call (.const (.fn 67 [] [])) [(.inr (.tmp 12)),(.inr (.tmp 14))],none⟩,
    ⟨(some 10),.mv (.tmp 15),none⟩,
    ⟨(some 16),.extract (.tmp 10) 0,none⟩,
    ⟨(some 17),.extract (.tmp 10) 1,none⟩,
    ⟨(some 6),.take 16,none⟩,
    ⟨(some 7),.take 17,none⟩])
   (.seq (.region false [⟨(some 18),.mv (.tmp 6),none⟩,
     ⟨(some 19),.conv (.int .u64) (.tmp 18),none⟩,
     ⟨(some 20),.mv (.tmp 7),none⟩,
     ⟨(some 21),.conv (.int .u64) (.tmp 20),none⟩,
     ⟨(some 4),.take 19,none⟩,
     ⟨(some 5),.take 21,none⟩])
   (.ret)))
  (.skip))
  (.seq (.region false [⟨(some 23),.mv (.tmp 0),none⟩,
    ⟨(some 24),.mv (.tmp 1),none⟩,
    ⟨(some 25),.call (.const (.fn 68 [] [])) [(.inr (.tmp 23)),(.inr (.tmp 24))],none⟩,
    ⟨(some 22),.mv (.tmp 25),none⟩,
    ⟨(some 26),.extract (.tmp 22) 0,none⟩,
    ⟨(some 27),.extract (.tmp 22) 1,none⟩,
    ⟨(some 8),.take 26,none⟩,
    ⟨(some 9),.take 27,none⟩])
  (.seq (.region false [⟨(some 28),.take 8,none⟩,
    ⟨(some 29),.take 9,none⟩,
    ⟨(some 4),.take 28,none⟩,
    ⟨(some 5),.take 29,none⟩])
   (.ret))))
def Lh:AFn:=⟨30,[.tmp 4,.tmp 5],Zb7,false⟩
theorem ZcO:cFn Tryz.prog Ej Tryz.f44=some Lh:=by kernel_rfl
theorem Zcd:(Tryz.f44.name == "runtime.NumGoroutine")=false:=by kernel_rfl
def ES:Wn :=
 .seq (.region false [⟨(some 4),.mv (.const (.int .u32 0)),none⟩,
   ⟨(some 5),.mv (.const (.int .u32 0)),none⟩])
 (.seq (.region false [⟨(some 7),.mv (.tmp 0),none⟩,
   ⟨(some 8),.conv (.int .u64) (.tmp 7),none⟩,
   ⟨(some 9),.mv (.tmp 1),none⟩,
   ⟨(some 10),.conv (.int .u64) (.tmp 9),none⟩,
   ⟨(some 11),.bin .mul .prim (.tmp 8) (.tmp 10),none⟩,
   ⟨(some 6),.take 11,none⟩])
  (.seq (.region false [⟨(some 12),.mv (.tmp 6),none⟩,
    ⟨(some 13),.bin .shr .prim (.tmp 12) (.const (.int .u64 32)),none⟩,
    ⟨(some 14),.conv (.int .u32) (.tmp 13),none⟩,
    ⟨(some 15),.mv (.tmp 6),none⟩,
    ⟨(some 16),.conv (.int .u32) (.tmp 15),none⟩,
    ⟨(some 4),.take 14,none⟩,
    ⟨(some 5),.take 16,none⟩])
  (.ret)))
def I8:AFn:=⟨17,[.tmp 4,.tmp 5],ES,false⟩
theorem AC:cFn Tryz.prog Ej Tryz.f67=some I8:=by kernel_rfl
theorem Ai:(Tryz.f67.name == "runtime.NumGoroutine")=false:=by kernel_rfl
def EU:Wn :=
 .seq (.region false [⟨(some 4),.mv (.const (.int .u64 0)),none⟩,
   ⟨(some 5),.mv (.const (.int .u64 0)),none⟩])
 (.seq (.region false [⟨(some 14),.mv (.tmp 0),none⟩,
   ⟨(some 15),.bin .and .prim (.tmp 14) (.const (.int .u64 4294967295)),none⟩,
   ⟨(some 6),.take 15,none⟩])
  (.seq (.region false [⟨(some 16),.mv (.tmp 0),none⟩,
    ⟨(some 17),.bin .shr .prim (.tmp 16) (.const (.int .u64 32)),none⟩,
    ⟨(some 7),.take 17,none⟩])
  (.seq (.region false [⟨(some 18),.mv (.tmp 1),none⟩,
    ⟨(some 19),.bin .and .prim (.tmp 18) (.const (.int .u64 4294967295)),none⟩,
    ⟨(some 8),.take 19,none⟩])
   (.seq (.region false [⟨(some 20),.mv (.tmp 1),none⟩,
     ⟨(some 21),.bin .shr .prim (.tmp 20) (.const (.int .u64 32)),none⟩,
     ⟨(some 9),.take 21,none⟩])
   (.seq (.region false [⟨(some 22),.mv (.tmp 6),none⟩,
     ⟨(some 23),.mv (.tmp 8),none⟩,
     ⟨(some 24),.bin .mul .prim (.tmp 22) (.tmp 23),none⟩,
     ⟨(some 10),.take 24,none⟩])
    (.seq (.region false [⟨(some 25),.mv (.tmp 7),none⟩,
      ⟨(some 26),.mv (.tmp 8),none⟩,
      ⟨(some 27),.bin .mul .prim (.tmp 25) (.tmp 26),none⟩,
      ⟨(some 28),.mv (.tmp 10),none⟩,
      ⟨(some 29),.bin .shr .prim (.tmp 28) (.const (.int .u64 32)),none⟩,
      ⟨(some 30),.bin .add .prim (.tmp 27) (.tmp 29),none⟩,
      ⟨(some 11),.take 30,none⟩])
    (.seq (.region false [⟨(some 31),.mv (.tmp 11),none⟩,
      ⟨(some 32),.bin .and .prim (.tmp 31) (.const (.int .u64 4294967295)),none⟩,
      ⟨(some 12),.take 32,none⟩])
     (.seq (.region false [⟨(some 33),.mv (.tmp 11),none⟩,
       ⟨(some 34),.bin .shr .prim (.tmp 33) (.const (.int .u64 32)),none⟩,
       ⟨(some 13),.take 34,none⟩])
     (.seq (.region false [⟨(some 35),.mv (.tmp 12),none⟩,
       ⟨(some 36),.mv (.tmp 6),none⟩,
       ⟨(some 37),.mv (.tmp 9),none⟩,
       ⟨(some 38),.bin .mul .prim (.tmp 36) (.tmp 37),none⟩,
       ⟨(some 39),.bin .add .prim (.tmp 35) (.tmp 38),none⟩,
       ⟨(some 12),.take 39,none⟩])
      (.seq (.region false [⟨(some 40),.mv (.tmp 7),none⟩,
        ⟨(some 41),.mv (.tmp 9),none⟩,
        ⟨(some 42),.bin .mul .prim (.tmp 40) (.tmp 41),none⟩,
        ⟨(some 43),.mv (.tmp 13),none⟩,
        ⟨(some 44),.bin .add .prim (.tmp 42) (.tmp 43),none⟩,
        ⟨(some 45),.mv (.tmp 12),none⟩,
        ⟨(some 46),.bin .shr .prim (.tmp 45) (.const (.int .u64 32)),none⟩,
        ⟨(some 47),.bin .add .prim (.tmp 44) (.tmp 46),none⟩,
        ⟨(some 4),.take 47,none⟩])
      (.seq (.region false [⟨(some 48),.mv (.tmp 0),none⟩,
        ⟨(some 49),.mv (.tmp 1),none⟩,
        ⟨(some 50),.bin .mul .prim (.tmp 48) (.tmp 49),none⟩,
        ⟨(some 5),.take 50,none⟩])
       (.ret))))))))))))
def I9:AFn:=⟨51,[.tmp 4,.tmp 5],EU,false⟩
theorem AL:cFn Tryz.prog Ej Tryz.f68=some I9:=by kernel_rfl
theorem Aj:(Tryz.f68.name == "runtime.NumGoroutine")=false:=by kernel_rfl
noncomputable def ZuG:List (Nat×AFn):=[(24,ND),(32,Fj),(28,XW),(44,Lh),(67,I8),(68,I9)] ++ tab
theorem ZjZ:∀ p ∈ ZuG,∃ fn takes,Tryz.prog.funcs[p.1]? = some fn∧(fn.name == "runtime.NumGoroutine")=false∧cFn Tryz.prog takes fn=some p.2:=by
 intro p hp
 rcases List.mem_append.1 hp with hp | hp
 ·simp only [List.mem_cons,List.not_mem_nil,or_false] at hp
  rcases hp with rfl | rfl | rfl | rfl | rfl | rfl | rfl
  ·exact ⟨Tryz.f24,Zl6,Tryz.func24,Zfq,Zgi⟩
  ·exact ⟨Tryz.f32,Ej,Tryz.func32,Zhc,Zih⟩
  ·exact ⟨Tryz.f28,Zl6,Tryz.func28,Iy,Iz⟩
  ·exact ⟨Tryz.f44,Ej,Tryz.func44,Zcd,ZcO⟩
  ·exact ⟨Tryz.f67,Ej,Tryz.func67,Ai,AC⟩
  ·exact ⟨Tryz.f68,Ej,Tryz.func68,Aj,AL⟩
 ·exact ZsD p hp
end Go.Proofs.YtgjcjbhhhlelnaaGreatDoor
end
