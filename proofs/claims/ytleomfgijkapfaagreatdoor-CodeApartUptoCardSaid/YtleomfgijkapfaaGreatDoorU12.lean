import Derived.Lib.Join
import Derived.Lib.ItoaNum
import Derived.Test.YtleomfgijkapfaaGreatDoorU11
set_option linter.all false
section
namespace Go.Proofs.YtleomfgijkapfaaGreatDoor
open Go Go.Proofs.YtleomfgijkapfaaGreatDoor.Abs
set_option maxRecDepth 100000
set_option maxHeartbeats 0
def ZjB:FuncId→List Nat:=fun _=>[]
def Zmz:FuncId→List Nat:=fun x=>if x=Gq then [1000059,1000033,1000078] else []
def C9:V4 :=
 .seq (.region false [⟨(some 0),.mv (.const (.bool false)),none⟩])
 (.seq (.region false [⟨(some 9),.call (.const (.fn 26 [] [])) [],none⟩,
   ⟨(some 10),.call (.const (.fn 26 [] [])) [],none⟩,
   ⟨(some 1),.mk 25 [(.str []),(.own 14 []),(.own 3 [])],none⟩,
   ⟨(some 2),.mk 25 [(.str []),(.own 14 []),(.own 3 [])],none⟩,
   ⟨none,.st 3 (.tmp 1) (.tmp 9),none⟩,
   ⟨none,.st 3 (.tmp 2) (.tmp 10),none⟩])
  (.seq (.region false [⟨(some 11),.fa 1 (.tmp 2),none⟩,
    ⟨(some 12),.ldc (.tmp 11),none⟩,
    ⟨(some 13),.ia (.slice 14) (.tmp 12) (.const (.int .i64 0)),none⟩,
    ⟨(some 14),.fa 13 (.tmp 13),none⟩,
    ⟨(some 15),.ldc (.tmp 14),none⟩,
    ⟨(some 16),.ia (.slice 4) (.tmp 15) (.const (.int .i64 0)),none⟩,
    ⟨(some 17),.fa 3 (.tmp 16),none⟩,
    ⟨(some 18),.ldc (.tmp 17),none⟩,
    ⟨(some 19),.ia (.slice 20) (.tmp 18) (.const (.int .i64 1)),none⟩,
    ⟨(some 20),.fa 3 (.tmp 19),none⟩,
    ⟨none,.st 1 (.tmp 20) (.const (.int .i64 3)),none⟩])
  (.seq (.region false [⟨(some 21),.fa 1 (.tmp 1),none⟩,
    ⟨(some 22),.ldc (.tmp 21),none⟩,
    ⟨(some 23),.ia (.slice 14) (.tmp 22) (.const (.int .i64 0)),none⟩,
    ⟨(some 24),.fa 13 (.tmp 23),none⟩,
    ⟨(some 25),.ldc (.tmp 24),none⟩,
    ⟨(some 26),.ia (.slice 4) (.tmp 25) (.const (.int .i64 0)),none⟩,
    ⟨(some 27),.lda 4 (.tmp 26),none⟩,
    ⟨(some 3),.mk 32 [(.str []),(.int .i64 0),(.int .i64 0),(.own 20 [])],none⟩,
    ⟨none,.st 4 (.tmp 3) (.tmp 27),none⟩])
   (.seq (.regionB [⟨(some 28),.lda 4 (.tmp 3),none⟩,
     ⟨(some 29),.lda 4 (.tmp 3),none⟩,
     ⟨(some 4),.mk 32 [(.str []),(.int .i64 0),(.int .i64 0),(.own 20 [])],none⟩,
     ⟨(some 5),.mk 32 [(.str []),(.int .i64 0),(.int .i64 0),(.own 20 [])],none⟩,
     ⟨none,.st 4 (.tmp 4) (.tmp 28),none⟩,
     ⟨none,.st 4 (.tmp 5) (.tmp 29),none⟩])
   (.seq (.region false [⟨(some 30),.fa 3 (.tmp 3),none⟩,
     ⟨(some 31),.ldc (.tmp 30),none⟩,
     ⟨(some 32),.slice (.slice 20) (.tmp 31) none (some (.const (.int .i64 1))),none⟩,
     ⟨(some 33),.fa 3 (.tmp 4),none⟩,
     ⟨none,.stt (.tmp 33) 32,none⟩])
    (.seq (.region false [⟨(some 34),.fa 3 (.tmp 3),none⟩,
      ⟨(some 35),.ldc (.tmp 34),none⟩,
      ⟨(some 36),.ia (.slice 20) (.tmp 35) (.const (.int .i64 0)),none⟩,
      ⟨(some 37),.lda 20 (.tmp 36),none⟩,
      ⟨(some 38),.build [(.int .i64 0),(.int .i64 0),(.int .i64 0),(.int .i64 0),(.int .i64 0),(.str []),(.int .i64 0),(.own 4 []),(.int .i64 0),(.str []),(.int .i64 0),(.own 4 []),(.own 4 []),(.int .i64 0),(.int .i64 0),(.int .i64 0),(.int .i64 0),(.own 1 []),(.own 1 []),(.bool false)] [(0,1,(.const (.int .i64 4))),(1,1,(.const (.int .i64 2)))],none⟩,
      ⟨(some 39),.lit 77 20 [(.tmp 37),(.tmp 38)],none⟩,
      ⟨(some 40),.fa 3 (.tmp 5),none⟩,
      ⟨none,.stt (.tmp 40) 39,none⟩])
    (.seq (.region false [⟨(some 42),.lda 3 (.tmp 1),none⟩,
      ⟨(some 43),.call (.const (.fn 22 [] [])) [(.inr (.tmp 42)),(.inr (.const (.int .i64 0))),(.inr (.const (.int .i64 1)))],none⟩,
      ⟨(some 41),.mv (.tmp 43),none⟩,
      ⟨(some 44),.extract (.tmp 41) 0,none⟩,
      ⟨(some 45),.extract (.tmp 41) 1,none⟩,
      ⟨(some 6),.take 44,none⟩,
      ⟨(some 7),.take 45,none⟩])
     (.seq (.region false [⟨(some 46),.lda 4 (.tmp 5),none⟩,
       ⟨(some 47),.call (.const (.fn 16 [] [])) [(.inr (.tmp 46))],none⟩,
       ⟨(some 8),.take 47,none⟩])
     (.seq (.region true [⟨(some 48),.lda 3 (.tmp 1),none⟩,
       ⟨(some 49),.call (.const (.fn 11 [] [])) [(.inr (.tmp 48))],none⟩,
       ⟨(some 50),.bin .eql .prim (.tmp 49) (.const (.int .i64 0)),none⟩,
       ⟨(some 51),.mv (.tmp 50),none⟩,
       ⟨(some 52),.lda 3 (.tmp 2),(some (51,true))⟩,
       ⟨(some 53),.call (.const (.fn 11 [] [])) [(.inr (.tmp 52))],(some (51,true))⟩,
       ⟨(some 54),.bin .eql .prim (.tmp 53) (.const (.int .i64 16)),(some (51,true))⟩,
       ⟨(some 55),.pick (.tmp 51) (.tmp 54) (.const (.bool false)),none⟩,
       ⟨(some 56),.mv (.tmp 55),none⟩,
       ⟨(some 57),.lda 3 (.tmp 1),(some (56,true))⟩,
       ⟨(some 58),.lda 4 (.tmp 4),(some (56,true))⟩,
       ⟨(some 59),.call (.const (.fn 14 [] [])) [(.inr (.tmp 57)),(.inr (.const (.int .i64 0))),(.inr (.tmp 58))],(some (56,true))⟩,
       ⟨(some 60),.bin .eql .prim (.tmp 59) (.const (.int .i64 8)),(some (56,true))⟩,
       ⟨(some 61),.pick (.tmp 56) (.tmp 60) (.const (.bool false)),none⟩,
       ⟨(some 62),.mv (.tmp 61),none⟩,
       ⟨(some 63),.lda 3 (.tmp 1),(some (62,true))⟩,
       ⟨(some 64),.lda 4 (.tmp 5),(some (62,true))⟩,
       ⟨(some 65),.call (.const (.fn 14 [] [])) [(.inr (.tmp 63)),(.inr (.const (.int .i64 0))),(.inr (.tmp 64))],(some (62,true))⟩,
       ⟨(some 66),.bin .eql .prim (.tmp 65) (.const (.int .i64 2)),(some (62,true))⟩,
       ⟨(some 67),.pick (.tmp 62) (.tmp 66) (.const (.bool false)),none⟩,
       ⟨(some 68),.mv (.tmp 67),none⟩,
       ⟨(some 69),.mv (.tmp 6),(some (68,true))⟩,
       ⟨(some 70),.bin .eql .prim (.tmp 69) (.const (.int .i64 4)),(some (68,true))⟩,
       ⟨(some 71),.pick (.tmp 68) (.tmp 70) (.const (.bool false)),none⟩,
       ⟨(some 72),.mv (.tmp 71),none⟩,
       ⟨(some 73),.mv (.tmp 7),(some (72,true))⟩,
       ⟨(some 74),.pick (.tmp 72) (.tmp 73) (.const (.bool false)),none⟩,
       ⟨(some 75),.mv (.tmp 74),none⟩,
       ⟨(some 76),.mv (.tmp 8),(some (75,true))⟩,
       ⟨(some 77),.len .slice (.tmp 76),(some (75,true))⟩,
       ⟨(some 78),.bin .eql .prim (.tmp 77) (.const (.int .i64 1)),(some (75,true))⟩,
       ⟨(some 79),.pick (.tmp 75) (.tmp 78) (.const (.bool false)),none⟩,
       ⟨(some 80),.mv (.tmp 79),none⟩,
       ⟨(some 81),.mv (.tmp 8),(some (80,true))⟩,
       ⟨(some 82),.ia (.slice 2) (.tmp 81) (.const (.int .i64 0)),(some (80,true))⟩,
       ⟨(some 83),.lda 2 (.tmp 82),(some (80,true))⟩,
       ⟨(some 84),.build [(.int .i64 0),(.int .i64 0)] [(0,1,(.const (.int .i64 1))),(1,1,(.const (.int .i64 2)))],(some (80,true))⟩,
       ⟨(some 85),.bin .eql (.struct [.int,.int]) (.tmp 83) (.tmp 84),(some (80,true))⟩,
       ⟨(some 86),.pick (.tmp 80) (.tmp 85) (.const (.bool false)),none⟩,
       ⟨(some 87),.mv (.tmp 86),none⟩,
       ⟨(some 88),.lda 4 (.tmp 4),(some (87,true))⟩,
       ⟨(some 89),.call (.const (.fn 18 [] [])) [(.inr (.tmp 88))],(some (87,true))⟩,
       ⟨(some 90),.bin .eql .prim (.tmp 89) (.const (.str [48,32,104,111,108,100,32,48,32,48,32,48,32,48,32,40,49,32,53,41,10])),(some (87,true))⟩,
       ⟨(some 91),.pick (.tmp 87) (.tmp 90) (.const (.bool false)),none⟩,
       ⟨(some 92),.mv (.tmp 91),none⟩,
       ⟨(some 93),.lda 3 (.tmp 1),(some (92,true))⟩,
       ⟨(some 94),.call (.const (.fn 26 [] [])) [],(some (92,true))⟩,
       ⟨(some 95),.call (.const (.fn 21 [] [])) [(.inr (.tmp 93)),(.inr (.tmp 94))],(some (92,true))⟩,
       ⟨(some 96),.pick (.tmp 92) (.tmp 95) (.const (.bool false)),none⟩,
       ⟨(some 97),.mv (.tmp 96),none⟩,
       ⟨(some 98),.lda 3 (.tmp 1),(some (97,true))⟩,
       ⟨(some 99),.lda 3 (.tmp 2),(some (97,true))⟩,
       ⟨(some 100),.call (.const (.fn 21 [] [])) [(.inr (.tmp 98)),(.inr (.tmp 99))],(some (97,true))⟩,
       ⟨(some 101),.un .not (.tmp 100),(some (97,true))⟩,
       ⟨(some 102),.pick (.tmp 97) (.tmp 101) (.const (.bool false)),none⟩,
       ⟨(some 0),.take 102,none⟩])
      (.ret))))))))))
def OA:AFn:=⟨103,[.tmp 0],C9,false⟩
theorem ZaI:Zqx Tryz.prog ZjB Tryz.f10=some OA:=by kernel_rfl
theorem Zai:(Tryz.f10.name == "runtime.NumGoroutine")=false:=by kernel_rfl
end Go.Proofs.YtleomfgijkapfaaGreatDoor
end
section
namespace Go.Proofs.YtleomfgijkapfaaGreatDoor
open Go Go.Proofs.YtleomfgijkapfaaGreatDoor.Abs
set_option maxRecDepth 100000
set_option maxHeartbeats 0
noncomputable section
def EC:V4 :=
 .seq (.region false [⟨(some 0),.mk 25 [(.str []),(.own 14 []),(.own 3 [])],none⟩])
 (.seq (.region false [⟨(some 5),.call (.const (.fn 56 [] [])) [(.inr (.const (.int .i64 5)))],none⟩,
   ⟨(some 6),.build [(.int .i64 0),(.int .i64 0),(.int .i64 0),(.int .i64 0),(.int .i64 0),(.str []),(.int .i64 0),(.own 4 []),(.int .i64 0),(.str []),(.int .i64 0),(.own 4 []),(.own 4 []),(.int .i64 0),(.int .i64 0),(.int .i64 0),(.int .i64 0),(.own 1 []),(.own 1 []),(.bool false)] [(0,1,(.const (.int .i64 6))),(4,4,(.tmp 5))],none⟩,
   ⟨(some 7),.call (.const (.fn 56 [] [])) [(.inr (.const (.int .i64 0)))],none⟩,
   ⟨(some 8),.call (.const (.fn 56 [] [])) [(.inr (.const (.int .i64 1)))],none⟩,
   ⟨(some 9),.lit 71 4 [(.tmp 8)],none⟩,
   ⟨(some 10),.build [(.int .i64 0),(.int .i64 0),(.int .i64 0),(.int .i64 0),(.int .i64 0),(.str []),(.int .i64 0),(.own 4 []),(.int .i64 0),(.str []),(.int .i64 0),(.own 4 []),(.own 4 []),(.int .i64 0),(.int .i64 0),(.int .i64 0),(.int .i64 0),(.own 1 []),(.own 1 []),(.bool false)] [(0,1,(.const (.int .i64 14))),(1,1,(.const (.int .i64 1))),(2,1,(.const (.int .i64 0))),(3,1,(.const (.int .i64 4))),(4,4,(.tmp 7)),(12,1,(.tmp 9))],none⟩,
   ⟨(some 11),.build [(.int .i64 0),(.int .i64 0),(.int .i64 0),(.int .i64 0),(.int .i64 0),(.str []),(.int .i64 0),(.own 4 []),(.int .i64 0),(.str []),(.int .i64 0),(.own 4 []),(.own 4 []),(.int .i64 0),(.int .i64 0),(.int .i64 0),(.int .i64 0),(.own 1 []),(.own 1 []),(.bool false)] [(0,1,(.const (.int .i64 19)))],none⟩,
   ⟨(some 12),.lita 77 20 [(.tmp 6),(.tmp 10),(.tmp 11)],none⟩,
   ⟨(some 13),.build [(.str []),(.int .i64 0),(.int .i64 0),(.own 20 [])] [(0,1,(.const (.str [106,111,98]))),(1,1,(.const (.int .i64 1))),(2,1,(.const (.int .i64 2))),(3,1,(.tmp 12))],none⟩,
   ⟨(some 1),.mk 32 [(.str []),(.int .i64 0),(.int .i64 0),(.own 20 [])],none⟩,
   ⟨none,.st 4 (.tmp 1) (.tmp 13),none⟩])
  (.seq (.region false [⟨(some 14),.build [(.str []),(.int .i64 0)] [(0,1,(.const (.str [107]))),(1,1,(.const (.int .i64 1)))],none⟩,
    ⟨(some 15),.lit 126 2 [(.tmp 14)],none⟩,
    ⟨(some 16),.build [(.str []),(.own 2 []),(.own 2 []),(.own 21 [])] [(0,1,(.const (.str [106,111,98]))),(1,1,(.tmp 15))],none⟩,
    ⟨(some 17),.lit 65 4 [(.tmp 16)],none⟩,
    ⟨(some 18),.build [(.str []),(.own 3 []),(.own 17 []),(.own 3 []),(.own 3 []),(.own 1 []),(.own 1 []),(.own 1 []),(.own 1 []),(.own 1 []),(.own 4 []),(.own 5 []),(.own 3 [])] [(0,1,(.const (.str [97]))),(10,1,(.tmp 17))],none⟩,
    ⟨(some 2),.mk 55 [(.str []),(.own 3 []),(.own 17 []),(.own 3 []),(.own 3 []),(.own 1 []),(.own 1 []),(.own 1 []),(.own 1 []),(.own 1 []),(.own 4 []),(.own 5 []),(.own 3 [])],none⟩,
    ⟨none,.st 13 (.tmp 2) (.tmp 18),none⟩])
  (.seq (.region false [⟨(some 19),.lda 13 (.tmp 2),none⟩,
    ⟨(some 3),.mk 55 [(.str []),(.own 3 []),(.own 17 []),(.own 3 []),(.own 3 []),(.own 1 []),(.own 1 []),(.own 1 []),(.own 1 []),(.own 1 []),(.own 4 []),(.own 5 []),(.own 3 [])],none⟩,
    ⟨none,.st 13 (.tmp 3) (.tmp 19),none⟩])
   (.seq (.region false [⟨(some 20),.fa 0 (.tmp 3),none⟩,
     ⟨none,.st 1 (.tmp 20) (.const (.str [98])),none⟩])
   (.seq (.region false [⟨(some 21),.lda 4 (.tmp 1),none⟩,
     ⟨(some 4),.mk 32 [(.str []),(.int .i64 0),(.int .i64 0),(.own 20 [])],none⟩,
     ⟨none,.st 4 (.tmp 4) (.tmp 21),none⟩])
    (.seq (.region false [⟨(some 22),.build [(.int .i64 0),(.int .i64 0),(.int .i64 0),(.int .i64 0),(.int .i64 0),(.str []),(.int .i64 0),(.own 4 []),(.int .i64 0),(.str []),(.int .i64 0),(.own 4 []),(.own 4 []),(.int .i64 0),(.int .i64 0),(.int .i64 0),(.int .i64 0),(.own 1 []),(.own 1 []),(.bool false)] [(0,1,(.const (.int .i64 19)))],none⟩,
      ⟨(some 23),.lita 77 20 [(.tmp 22)],none⟩,
      ⟨(some 24),.fa 3 (.tmp 4),none⟩,
      ⟨none,.stt (.tmp 24) 23,none⟩])
    (.seq (.region false [⟨(some 25),.lda 13 (.tmp 2),none⟩,
      ⟨(some 26),.lda 4 (.tmp 1),none⟩,
      ⟨(some 27),.lita 32 4 [(.tmp 26)],none⟩,
      ⟨(some 28),.build [(.str []),(.own 3 []),(.own 17 []),(.own 3 []),(.own 3 []),(.own 1 []),(.own 1 []),(.own 1 []),(.own 1 []),(.own 1 []),(.own 4 []),(.own 5 []),(.own 3 []),(.own 4 [])] [(0,13,(.tmp 25)),(13,1,(.tmp 27))],none⟩,
      ⟨(some 29),.lda 13 (.tmp 3),none⟩,
      ⟨(some 30),.lda 4 (.tmp 4),none⟩,
      ⟨(some 31),.lita 32 4 [(.tmp 30)],none⟩,
      ⟨(some 32),.build [(.str []),(.own 3 []),(.own 17 []),(.own 3 []),(.own 3 []),(.own 1 []),(.own 1 []),(.own 1 []),(.own 1 []),(.own 1 []),(.own 4 []),(.own 5 []),(.own 3 []),(.own 4 [])] [(0,13,(.tmp 29)),(13,1,(.tmp 31))],none⟩,
      ⟨(some 33),.lita 58 14 [(.tmp 28),(.tmp 32)],none⟩,
      ⟨(some 34),.build [(.int .i64 0),(.int .i64 0),(.int .i64 0)] [(0,1,(.const (.int .i64 0))),(1,1,(.const (.int .i64 1))),(2,1,(.const (.int .i64 4)))],none⟩,
      ⟨(some 35),.lit 60 3 [(.tmp 34)],none⟩,
      ⟨(some 36),.build [(.str []),(.own 14 []),(.own 3 [])] [(0,1,(.const (.str [115,104,111,112]))),(1,1,(.tmp 33)),(2,1,(.tmp 35))],none⟩,
      ⟨none,.st 3 (.tmp 0) (.tmp 36),none⟩])
     (.ret))))))))
def H7:AFn:=⟨37,[.agg 0 3],EC,true⟩
theorem EU:cFn Tryz.prog Zmz Tryz.f26=some H7:=by kernel_rfl
theorem EI:(Tryz.f26.name == "runtime.NumGoroutine")=false:=by kernel_rfl
def Zdg:V4 :=
 .seq (.region false [⟨(some 2),.mk 71 [(.int .i64 0),(.str []),(.int .i64 0),(.own 4 [])],none⟩])
 (.seq (.region false [⟨(some 3),.mv (.tmp 0),none⟩,
   ⟨(some 4),.build [(.int .i64 0),(.str []),(.int .i64 0),(.own 4 [])] [(0,1,(.const (.int .i64 1))),(2,1,(.tmp 3))],none⟩,
   ⟨none,.st 4 (.tmp 2) (.tmp 4),none⟩])
  (.ret))
def D7:AFn:=⟨5,[.agg 2 4],Zdg,false⟩
theorem Ze5:cFn Tryz.prog ZjB Tryz.f56=some D7:=by kernel_rfl
theorem Zd3:(Tryz.f56.name == "runtime.NumGoroutine")=false:=by kernel_rfl
def Zqo:List (Nat×AFn):=[(26,H7),(56,D7)] ++ tab
theorem Zj7:∀ p ∈ Zqo,∃ fn takes,Tryz.prog.funcs[p.1]? = some fn∧(fn.name == "runtime.NumGoroutine")=false∧cFn Tryz.prog takes fn=some p.2:=by
 intro p hp
 rcases List.mem_append.1 hp with hp | hp
 ·simp only [List.mem_cons,List.not_mem_nil,or_false] at hp
  rcases hp with rfl | rfl | rfl
  ·exact ⟨Tryz.f26,Zmz,Tryz.func26,EI,EU⟩
  ·exact ⟨Tryz.f56,ZjB,Tryz.func56,Zd3,Ze5⟩
 ·exact Zmy p hp
end
end Go.Proofs.YtleomfgijkapfaaGreatDoor
end
section
namespace Go.Proofs.YtleomfgijkapfaaGreatDoor
open Go Go.Proofs.YtleomfgijkapfaaGreatDoor.Abs Go.Proofs.YtleomfgijkapfaaGreatDoor.Tl
set_option maxRecDepth 100000
def Qb:List JD:=[⟨[],0,0,false,false,false,false,false,false⟩,⟨[115,108,111,116],1,0,false,true,false,false,false,false⟩,⟨[118,97,114],2,0,false,true,false,false,false,false⟩,⟨[100,114,97,119],1,3,false,false,false,false,true,false⟩,⟨[106,117,109,112],4,0,false,false,false,false,false,false⟩,⟨[98,114,97,110,99,104],4,0,false,true,false,false,false,false⟩,⟨[104,111,108,100],0,0,false,true,false,false,false,false⟩,⟨[115,101,105,122,101],5,0,false,true,true,false,false,true⟩,⟨[114,101,108,101,97,115,101],5,0,false,true,false,false,false,false⟩,⟨[112,117,116],6,0,false,true,false,false,false,false⟩,⟨[103,101,116],6,1,false,false,false,false,false,false⟩,⟨[114,105,100,101],7,0,false,false,false,false,false,false⟩,⟨[119,97,105,116],8,0,false,false,false,false,false,false⟩,⟨[115,105,103,110,97,108],8,0,false,true,false,false,false,false⟩,⟨[115,101,110,100],9,10,true,true,false,true,false,false⟩,⟨[115,112,97,119,110],0,10,false,true,false,true,false,false⟩,⟨[111,98,115,101,114,118,101],11,0,false,true,false,false,false,false⟩,⟨[108,101,118,101,108],12,0,false,true,false,false,false,false⟩,⟨[99,111,117,110,116],13,0,false,true,false,false,false,false⟩,⟨[101,110,100],0,0,false,false,false,false,false,false⟩]
def tG:Nat→Option (List (TV tT)):=fun g=>match g with
 | 0=>some [.lst 9 (.row 22) Qb]
 | _=>none
def GF:Nat→Option (List AV):=fun g=>if g=0 then some [.lst 9 (Qb.map Zeu)] else none
theorem Zr7:GR tG GF:=fun g c h=>by
 match g,h with
 | 0,h=>cases h; exact ⟨_,rfl,.one _ _ (VR.lst (T := tT) 9 (.row 22) Qb _ rfl) rfl [] [] .nil⟩
 | _ + 1,h=>cases h
noncomputable def cT (f:FuncId):Option AFn:=(tab.find? (·.1 == f)).map (·.2)
structure St (C:Cfg)(L:Nat):Prop where
 L:C.L=L + 64
 G:GR tG C.G
 T:∀ f a,cT f=some a→C.T f=some a
 grow:∀ (m:Nat) (n:Int) (hp:List Zp),0≤n→n≤100000→Zy C (m + 1) 223 [.own 2 [],.int .i64 n] hp=some (.own 2 [],hp,none)
 awake:∀ (m:Nat) (hp:List Zp),Zy C (m + 1) 10 [] hp=some (.bool true,hp,none)
 text:∀ (m:Nat) (n:Int) (hp:List Zp),-9223372036854775808≤n∧n≤9223372036854775807→Zy C (m + 1) 40 [.int .i64 n] hp=some (.str (Lib.itoa n),hp,none)
 rtext:∀ (m:Nat) (n:Int) (hp:List Zp),-9223372036854775808≤n∧n≤9223372036854775807→Zy C (m + 1) 92 [.int .i64 n] hp=some (.str (Lib.itoa n),hp,none)
 join:∀ (m:Nat) (a:AV) (l:List (List UInt8)) (s:List UInt8) (hp:List Zp),a.ro=.lst 1 (l.map fun x=>[.str x])→l.length≤140737488355328∧(Lib.join l s).length≤140737488355328→Zy C (m + 1) 88 [a,.str s] hp=some (.str (Lib.join l s),hp,none)
 buf:ZoJ C 93 5 38 44 45
def VN (n:Int):Option (List UInt8):=if -9223372036854775808≤n∧n≤9223372036854775807 then some (Lib.itoa n) else none
def Zno (l:List (List UInt8))(s:List UInt8):Option (List UInt8):=if l.length≤140737488355328∧(Lib.join l s).length≤140737488355328 then some (Lib.join l s) else none
def FI:Sum tT:=⟨40,[.int .i64],fun x=>.par _ (VN x.1) (SD.tv tT .str)⟩
def Zm2:Sum tT:=⟨88,[.lst 1 .str,.str],fun x=>.par _ (Zno x.1 x.2.1) (SD.tv tT .str)⟩
theorem Zqh {C:Cfg}{f:FuncId}(h:∀ (m:Nat) (n:Int) (hp:List Zp),-9223372036854775808≤n∧n≤9223372036854775807→Zy C (m + 1) f [.int .i64 n] hp=some (.str (Lib.itoa n),hp,none)):QR C (⟨f,[.int .i64],fun x=>.par _ (VN x.1) (SD.tv tT .str)⟩:Sum tT):=fun x hp avs hv y hy=>by
 obtain ⟨(n:Int),u⟩:=x
 change (if -9223372036854775808≤n∧n≤9223372036854775807 then some (Lib.itoa n) else none)=some y at hy
 split at hy
 ·rename_i hc
  cases hy
  cases hv with
  | cons _ a h1 _ _ h2=>cases h2 with
   | nil =>
    have:=VR.int h1; subst this
    exact ⟨.str (Lib.itoa n),fun ad=>.av _ _ (.inl rfl),ZbC fun k=>h k n hp hc⟩
 ·cases hy
theorem Zc5 {C:Cfg}{L:Nat}(h:St C L):QR C FI:=Zqh h.text
theorem Zqi {C:Cfg}{L:Nat}(h:St C L):QR C Zm2:=fun x hp avs hv y hy=>by
 obtain ⟨(l:List (List UInt8)),(s:List UInt8),u⟩:=x
 change (if l.length≤140737488355328∧(Lib.join l s).length≤140737488355328 then some (Lib.join l s) else none)=some y at hy
 split at hy
 ·rename_i hc
  cases hy
  cases hv with
  | cons _ a h1 _ _ h2=>cases h2 with
   | cons _ b h3 _ _ h4=>cases h4 with
    | nil =>
     have:=VR.str h3; subst this
     cases h1 with
     | lst _ _ _ _ h1=>exact ⟨.str (Lib.join l s),fun ad=>.av _ _ (.inl rfl),ZbC fun k=>h.join k a l s hp h1 hc⟩
 ·cases hy
def ZjD:Sum tT:=⟨10,[],fun _=>.tot (.av (.bool true))⟩
theorem Zoo {C:Cfg}{L:Nat}(h:St C L):QR C ZjD:=fun x hp avs hv=>by
 cases hv with
 | nil=>exact ⟨.bool true,fun ad=>.av _ _ (.inl rfl),1,fun m hm=>by
   obtain ⟨k,rfl⟩:∃ k,m=k + 1:=⟨m - 1,by omega⟩
   exact h.awake k hp⟩
@[reducible] noncomputable def fT (S:List (Sum tT))(L:Nat)(a:AFn)(A:List LN)(d:RD)(g:List SD)(x:RTy tT g):Option (d.Ty tT):=fnT tF tG (qOf tF S) 0 L a A d (tvL tT g x) []
@[reducible] noncomputable def fI (S:List (Sum tT))(L:Nat)(I:List (Inl tT))(a:AFn)(A:List LN)(d:RD)(g:List SD)(x:RTy tT g):Option (d.Ty tT):=fnT tF tG (ZcA tF tG (qOf tF S) L I 8) 0 L a A d (tvL tT g x) []
@[reducible] noncomputable def mU (f:FuncId)(g:List SD)(d:RD)(y:RTy tT g→Option (d.Ty tT)):Sum tT:=⟨f,g,fun x=>.par (d.Ty tT) (y x) (d.tv tT)⟩
abbrev SX (u:Nat→Sum tT):Prop:=∀ {C:Cfg} {L:Nat},St C L→QR C (u L)
theorem sT {C:Cfg}{L:Nat}(h:St C L){S:List (Sum tT)}(hS:∀ s ∈ S,QR C s){f:FuncId}{g:List SD}{d:RD}{a:AFn}{A:List LN}{y:RTy tT g→Option (d.Ty tT)}(hT:cT f=some a)(hk:a.keep=false)(hy:∀ x,y x=fT S L a A d g x):QR C (mU f g d y) :=
 WH Wh h.L h.G (QH Wh hS) A (h.T _ _ hT) hk fun x=>(hy x).symm
theorem sI {C:Cfg}{L:Nat}(h:St C L){S:List (Sum tT)}(hS:∀ s ∈ S,QR C s){I:List (Inl tT)}(hI:∀ i ∈ I,C.T i.f=some i.fn∧i.fn.keep=false){f:FuncId}{g:List SD}{d:RD}{a:AFn}{A:List LN}{y:RTy tT g→Option (d.Ty tT)}(hT:cT f=some a)(hk:a.keep=false)(hy:∀ x,y x=fI S L I a A d g x):QR C (mU f g d y) :=
 WH Wh h.L h.G (TP Wh h.L h.G (QH Wh hS) hI 8) A (h.T _ _ hT) hk fun x=>(hy x).symm
@[reducible] noncomputable def fB (S:List (Sum tT))(L:Nat)(a:AFn)(A:List LN)(d:RD)(g:List SD)(x:RTy tT g):Option (d.Ty tT):=fnT tF tG (orQ (ZqI 93 5 38 44 45) (qOf tF S)) 0 L a A d (tvL tT g x) []
theorem sB {C:Cfg}{L:Nat}(h:St C L){S:List (Sum tT)}(hS:∀ s ∈ S,QR C s){f:FuncId}{g:List SD}{d:RD}{a:AFn}{A:List LN}{y:RTy tT g→Option (d.Ty tT)}(hT:cT f=some a)(hk:a.keep=false)(hy:∀ x,y x=fB S L a A d g x):QR C (mU f g d y) :=
 WH Wh h.L h.G (ZiY (ZmI h.buf) (QH Wh hS)) A (h.T _ _ hT) hk fun x=>(hy x).symm
end Go.Proofs.YtleomfgijkapfaaGreatDoor
end
section
namespace Go.Proofs.YtleomfgijkapfaaGreatDoor
open Go Go.RowKit Go.Proofs.YtleomfgijkapfaaGreatDoor.Abs
set_option maxRecDepth 100000
set_option maxHeartbeats 0
noncomputable section
def ZqN (n:Nat):List UInt8:=if n < 10 then [UInt8.ofNat (48 + n)] else [UInt8.ofNat (48 + n / 10),UInt8.ofNat (48 + n % 10)]
def textS (f:FuncId)(args:List AV):Option AV:=if f=40 then (match args with
 | [.int .i64 n]=>if 0≤n∧n < 100 then some (.str (ZqN n.toNat)) else none
 | _=>none) else none
def O17 (f:FuncId)(args:List AV)(hp:List Zp):Option (AV×List Zp×Eff) :=
 match f with
 | 38=>wsO f args hp
 | 44=>wbO f args hp
 | 45=>Zql f args hp
 | 168=>Zne f args hp
 | 88=>(orJ f args).map fun v=>(v,hp,none)
 | 40=>(textS f args).map fun v=>(v,hp,none)
 | _=>Zii 223 2 24 f args hp
def CW:Cfg:=⟨fun g=>if g=0 then some [.lst 9 (Qb.map Zeu)] else none,fun f=>(Zqo.find? (·.1 == f)).map (·.2),O17,1000⟩
def isR (f:FuncId)(args:List AV)(v:AV):Bool:=match Zy CW 60 f args [] with
 | some (w,[],none)=>eqA 5 v w
 | _=>false
def isT:Option (AV×List Zp×Eff)→Bool
 | some (.bool true,_,_)=>true
 | _=>false
def Zro (n:Int):Zg:=⟨1,[],n,[]⟩
def zE:Zg:=⟨0,[],0,[]⟩
def zD:ZX:=⟨0,0,0,0,[],[]⟩
def Znh:Zx:=⟨6,0,0,0,Zro 5,zE,[],zD,false⟩
def ZqZ (c:Int):Zx:=⟨14,1,0,c,Zro 0,zE,[Zro 1],zD,false⟩
def ZrD:Zx:=⟨19,0,0,0,zE,zE,[],zD,false⟩
def ZqX:Zx:=⟨4,2,0,0,zE,zE,[],zD,false⟩
def Zq1 (l:List Zx):YO:=⟨[106,111,98],1,2,l⟩
def ZoY (n:UInt8):Zm:=⟨[n],[],[],[],[],[],[],[],[],[],[⟨[106,111,98],[⟨[107],1⟩],[],[]⟩],[],[]⟩
def Zry (c:Int):Z9:=⟨[115,104,111,112],[⟨ZoY 97,[Zq1 [Znh,ZqZ c,ZrD]]⟩,⟨ZoY 98,[Zq1 [ZrD]]⟩],[⟨0,1,4⟩]⟩
def pA (c:Int):AV:=.agg (UJ (Zry c))
def ZfR:AV:=.agg (TA (Zq1 [Znh]))
def loopA:AV:=.agg (TA (Zq1 [Znh,ZqX]))
def ZrK:AV:=.str [48,32,104,111,108,100,32,48,32,48,32,48,32,48,32,40,49,32,53,41,10]
def Zp2:List (Nat×List AV×AV):=[(11,[pA 4],.int .i64 0),(11,[pA 3],.int .i64 16),(14,[pA 4,.int .i64 0,ZfR],.int .i64 8),(14,[pA 4,.int .i64 0,loopA],.int .i64 2),(18,[ZfR],ZrK),(21,[pA 4,pA 4],.bool true),(21,[pA 4,pA 3],.bool false)]
def Zny (f:FuncId)(args:List AV):Option AV:=(Zp2.find? fun e=>e.1 == f && allEq (eqA 12) e.2.1 args).map (·.2.2)
def CM:Cfg:=⟨fun _=>none,fun f=>if [11,14,18,21].contains f then none else (Zqo.find? (·.1 == f)).map (·.2),fun f args hp=>(Zny f args).map fun v=>(v,hp,none),1000⟩
end
end Go.Proofs.YtleomfgijkapfaaGreatDoor
end
section
namespace Go.Proofs.YtleomfgijkapfaaGreatDoor
open Go Go.Proofs.YtleomfgijkapfaaGreatDoor.Abs
set_option maxRecDepth 100000
set_option maxHeartbeats 0
theorem run_text:isR 18 [ZfR] ZrK=true:=by kernel_rfl
theorem Zon:isT (PP CM [11,14,16,18,21,22] 20 OA [] [])=true:=by kernel_rfl
end Go.Proofs.YtleomfgijkapfaaGreatDoor
end
section
namespace Go.Proofs.YtleomfgijkapfaaGreatDoor
open Go Go.Proofs.YtleomfgijkapfaaGreatDoor.Abs
set_option maxRecDepth 100000
set_option maxHeartbeats 0
theorem Zqd:isR 14 [pA 4,.int .i64 0,ZfR] (.int .i64 8)=true:=by kernel_rfl
end Go.Proofs.YtleomfgijkapfaaGreatDoor
end
section
namespace Go.Proofs.YtleomfgijkapfaaGreatDoor
open Go Go.Proofs.YtleomfgijkapfaaGreatDoor.Abs
set_option maxRecDepth 100000
set_option maxHeartbeats 0
theorem Zqe:isR 14 [pA 4,.int .i64 0,loopA] (.int .i64 2)=true:=by kernel_rfl
end Go.Proofs.YtleomfgijkapfaaGreatDoor
end
section
namespace Go.Proofs.YtleomfgijkapfaaGreatDoor
open Go Go.Proofs.YtleomfgijkapfaaGreatDoor.Abs
set_option maxRecDepth 100000
set_option maxHeartbeats 0
theorem Zqf:isR 21 [pA 4,pA 4] (.bool true)=true:=by kernel_rfl
end Go.Proofs.YtleomfgijkapfaaGreatDoor
end
section
namespace Go.Proofs.YtleomfgijkapfaaGreatDoor
open Go Go.Proofs.YtleomfgijkapfaaGreatDoor.Abs
set_option maxRecDepth 100000
set_option maxHeartbeats 0
theorem Zqg:isR 21 [pA 4,pA 3] (.bool false)=true:=by kernel_rfl
end Go.Proofs.YtleomfgijkapfaaGreatDoor
end
