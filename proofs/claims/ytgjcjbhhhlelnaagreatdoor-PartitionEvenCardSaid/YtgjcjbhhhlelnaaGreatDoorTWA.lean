/-
  More functions in the evaluator's terms (what the worked examples reach); printed by wip/abs/T6.lean.txt.
-/
import Derived.Test.YtgjcjbhhhlelnaaGreatDoorTA
namespace Go.Proofs.YtgjcjbhhhlelnaaGreatDoor
open Go Go.Proofs.YtgjcjbhhhlelnaaGreatDoor.Abs
set_option maxRecDepth 100000
set_option maxHeartbeats 0
set_option linter.all false
def takesW : FuncId → List Nat := fun _ => []
def takesK : FuncId → List Nat := fun x => if x = litMark then [1001000] else []
/-- simulator/simulatorlaw34.awake -/
def c_law34_awake : ACode :=
  .seq (.region false [⟨(some 0), .mv (.const (.bool false)), none⟩])
  (.seq (.region false [⟨(some 9), .call (.const (.fn 18 [] [])) [(.inr (.const (.int .i64 5))), (.inr (.const (.int .i64 2)))], none⟩,
      ⟨(some 8), .mv (.tmp 9), none⟩,
      ⟨(some 10), .extract (.tmp 8) 0, none⟩,
      ⟨(some 11), .extract (.tmp 8) 1, none⟩,
      ⟨(some 1), .take 10, none⟩,
      ⟨(some 2), .take 11, none⟩])
   (.seq (.region false [⟨(some 13), .call (.const (.fn 18 [] [])) [(.inr (.const (.int .i64 3))), (.inr (.const (.int .i64 4)))], none⟩,
       ⟨(some 12), .mv (.tmp 13), none⟩,
       ⟨(some 14), .extract (.tmp 12) 0, none⟩,
       ⟨(some 15), .extract (.tmp 12) 1, none⟩,
       ⟨(some 3), .take 14, none⟩,
       ⟨(some 4), .take 15, none⟩])
    (.seq (.region false [⟨(some 17), .call (.const (.fn 24 [] [])) [], none⟩,
        ⟨(some 18), .lit 3 1 [(.const (.int .i64 0)), (.const (.int .i64 0)), (.const (.int .i64 1))], none⟩,
        ⟨(some 19), .call (.const (.fn 11 [] [])) [(.inr (.tmp 17)), (.inr (.tmp 18))], none⟩,
        ⟨(some 16), .mv (.tmp 19), none⟩,
        ⟨(some 20), .extract (.tmp 16) 0, none⟩,
        ⟨(some 21), .extract (.tmp 16) 1, none⟩,
        ⟨(some 5), .take 20, none⟩,
        ⟨(some 6), .take 21, none⟩])
     (.seq (.region false [⟨(some 22), .call (.const (.fn 24 [] [])) [], none⟩,
         ⟨(some 23), .call (.const (.fn 21 [] [])) [(.inr (.tmp 22))], none⟩,
         ⟨(some 7), .take 23, none⟩])
      (.seq (.seq (.region false [⟨(some 24), .mv (.tmp 2), none⟩,
           ⟨(some 25), .bin .neq .prim (.tmp 24) (.const (.int .i64 0)), none⟩,
           ⟨(some 26), .mv (.tmp 25), none⟩,
           ⟨(some 27), .mv (.tmp 4), (some (26, false))⟩,
           ⟨(some 28), .bin .neq .prim (.tmp 27) (.const (.int .i64 2)), (some (26, false))⟩,
           ⟨(some 29), .pick (.tmp 26) (.const (.bool true)) (.tmp 28), none⟩,
           ⟨(some 30), .mv (.tmp 29), none⟩,
           ⟨(some 31), .mv (.tmp 1), (some (30, false))⟩,
           ⟨(some 32), .lit 3 1 [(.const (.int .i64 0)), (.const (.int .i64 0)), (.const (.int .i64 0)), (.const (.int .i64 1)), (.const (.int .i64 1))], (some (30, false))⟩,
           ⟨(some 33), .call (.const (.fn 20 [] [])) [(.inr (.tmp 31)), (.inr (.tmp 32))], (some (30, false))⟩,
           ⟨(some 34), .un .not (.tmp 33), (some (30, false))⟩,
           ⟨(some 35), .pick (.tmp 30) (.const (.bool true)) (.tmp 34), none⟩,
           ⟨(some 36), .mv (.tmp 35), none⟩,
           ⟨(some 37), .mv (.tmp 5), (some (36, false))⟩,
           ⟨(some 38), .bin .neq .prim (.tmp 37) (.const (.int .i64 3)), (some (36, false))⟩,
           ⟨(some 39), .pick (.tmp 36) (.const (.bool true)) (.tmp 38), none⟩,
           ⟨(some 40), .mv (.tmp 39), none⟩,
           ⟨(some 41), .mv (.tmp 6), (some (40, false))⟩,
           ⟨(some 42), .un .not (.tmp 41), (some (40, false))⟩,
           ⟨(some 43), .pick (.tmp 40) (.const (.bool true)) (.tmp 42), none⟩,
           ⟨(some 44), .mv (.tmp 43), none⟩,
           ⟨(some 45), .mv (.tmp 7), (some (44, false))⟩,
           ⟨(some 46), .len .slice (.tmp 45), (some (44, false))⟩,
           ⟨(some 47), .bin .neq .prim (.tmp 46) (.const (.int .i64 3)), (some (44, false))⟩,
           ⟨(some 48), .pick (.tmp 44) (.const (.bool true)) (.tmp 47), none⟩])
        (.cond (.tmp 48) (.seq (.region false [⟨(some 0), .mv (.const (.bool false)), none⟩])
          (.ret))
         (.skip)))
       (.seq (.seq (.region false [⟨(some 49), .mv (.tmp 7), none⟩,
            ⟨(some 50), .ia (.slice 1) (.tmp 49) (.const (.int .i64 0)), none⟩,
            ⟨(some 51), .ldc (.tmp 50), none⟩,
            ⟨(some 52), .lit 3 1 [(.const (.int .i64 0)), (.const (.int .i64 4)), (.const (.int .i64 7))], none⟩,
            ⟨(some 53), .call (.const (.fn 20 [] [])) [(.inr (.tmp 51)), (.inr (.tmp 52))], none⟩,
            ⟨(some 54), .un .not (.tmp 53), none⟩,
            ⟨(some 55), .mv (.tmp 54), none⟩,
            ⟨(some 56), .mv (.tmp 7), (some (55, false))⟩,
            ⟨(some 57), .ia (.slice 1) (.tmp 56) (.const (.int .i64 1)), (some (55, false))⟩,
            ⟨(some 58), .ldc (.tmp 57), (some (55, false))⟩,
            ⟨(some 59), .lit 3 1 [(.const (.int .i64 (-1))), (.const (.int .i64 0)), (.const (.int .i64 3))], (some (55, false))⟩,
            ⟨(some 60), .call (.const (.fn 20 [] [])) [(.inr (.tmp 58)), (.inr (.tmp 59))], (some (55, false))⟩,
            ⟨(some 61), .un .not (.tmp 60), (some (55, false))⟩,
            ⟨(some 62), .pick (.tmp 55) (.const (.bool true)) (.tmp 61), none⟩,
            ⟨(some 63), .mv (.tmp 62), none⟩,
            ⟨(some 64), .mv (.tmp 7), (some (63, false))⟩,
            ⟨(some 65), .ia (.slice 1) (.tmp 64) (.const (.int .i64 2)), (some (63, false))⟩,
            ⟨(some 66), .ldc (.tmp 65), (some (63, false))⟩,
            ⟨(some 67), .lit 3 1 [(.const (.int .i64 (-1))), (.const (.int .i64 (-1))), (.const (.int .i64 0))], (some (63, false))⟩,
            ⟨(some 68), .call (.const (.fn 20 [] [])) [(.inr (.tmp 66)), (.inr (.tmp 67))], (some (63, false))⟩,
            ⟨(some 69), .un .not (.tmp 68), (some (63, false))⟩,
            ⟨(some 70), .pick (.tmp 63) (.const (.bool true)) (.tmp 69), none⟩])
         (.cond (.tmp 70) (.seq (.region false [⟨(some 0), .mv (.const (.bool false)), none⟩])
           (.ret))
          (.skip)))
        (.seq (.region false [⟨(some 71), .call (.const (.fn 24 [] [])) [], none⟩,
            ⟨(some 72), .lit 3 1 [(.const (.int .i64 1)), (.const (.int .i64 0)), (.const (.int .i64 1))], none⟩,
            ⟨(some 73), .call (.const (.fn 13 [] [])) [(.inr (.tmp 71)), (.inr (.tmp 72))], none⟩,
            ⟨(some 74), .bin .eql .prim (.tmp 73) (.const (.int .i64 0)), none⟩,
            ⟨(some 75), .mv (.tmp 74), none⟩,
            ⟨(some 76), .call (.const (.fn 24 [] [])) [], (some (75, true))⟩,
            ⟨(some 77), .lit 3 1 [(.const (.int .i64 0)), (.const (.int .i64 2)), (.const (.int .i64 0))], (some (75, true))⟩,
            ⟨(some 78), .call (.const (.fn 13 [] [])) [(.inr (.tmp 76)), (.inr (.tmp 77))], (some (75, true))⟩,
            ⟨(some 79), .bin .eql .prim (.tmp 78) (.const (.int .i64 12)), (some (75, true))⟩,
            ⟨(some 80), .pick (.tmp 75) (.tmp 79) (.const (.bool false)), none⟩,
            ⟨(some 81), .mv (.tmp 80), none⟩,
            ⟨(some 82), .call (.const (.fn 24 [] [])) [], (some (81, true))⟩,
            ⟨(some 83), .lit 3 1 [(.const (.int .i64 0)), (.const (.int .i64 16)), (.const (.int .i64 0))], (some (81, true))⟩,
            ⟨(some 84), .call (.const (.fn 13 [] [])) [(.inr (.tmp 82)), (.inr (.tmp 83))], (some (81, true))⟩,
            ⟨(some 85), .bin .eql .prim (.tmp 84) (.const (.int .i64 2)), (some (81, true))⟩,
            ⟨(some 86), .pick (.tmp 81) (.tmp 85) (.const (.bool false)), none⟩,
            ⟨(some 87), .mv (.tmp 86), none⟩,
            ⟨(some 88), .call (.const (.fn 24 [] [])) [], (some (87, true))⟩,
            ⟨(some 89), .lit 3 1 [(.const (.int .i64 0))], (some (87, true))⟩,
            ⟨(some 90), .call (.const (.fn 13 [] [])) [(.inr (.tmp 88)), (.inr (.tmp 89))], (some (87, true))⟩,
            ⟨(some 91), .bin .eql .prim (.tmp 90) (.const (.int .i64 8)), (some (87, true))⟩,
            ⟨(some 92), .pick (.tmp 87) (.tmp 91) (.const (.bool false)), none⟩,
            ⟨(some 93), .mv (.tmp 92), none⟩,
            ⟨(some 94), .call (.const (.fn 24 [] [])) [], (some (93, true))⟩,
            ⟨(some 95), .lit 3 1 [(.const (.int .i64 0)), (.const (.int .i64 0)), (.const (.int .i64 1))], (some (93, true))⟩,
            ⟨(some 96), .call (.const (.fn 16 [] [])) [(.inr (.tmp 94)), (.inr (.tmp 95))], (some (93, true))⟩,
            ⟨(some 97), .build [(.int .i64 0), (.int .i64 0), (.int .i64 0)] [(0, 1, (.const (.int .i64 1))), (1, 1, (.const (.int .i64 2))), (2, 1, (.const (.int .i64 3)))], (some (93, true))⟩,
            ⟨(some 98), .lit 36 3 [(.tmp 97)], (some (93, true))⟩,
            ⟨(some 99), .call (.const (.fn 15 [] [])) [(.inr (.tmp 96)), (.inr (.tmp 98))], (some (93, true))⟩,
            ⟨(some 100), .pick (.tmp 93) (.tmp 99) (.const (.bool false)), none⟩,
            ⟨(some 0), .take 100, none⟩])
         (.ret))))))))
def a_law34_awake : AFn := ⟨101, [.tmp 0], c_law34_awake, false⟩
theorem t_law34_awake : cFn Tryz.prog takesW Tryz.f10 = some a_law34_awake := by kernel_rfl
theorem n_law34_awake : (Tryz.f10.name == "runtime.NumGoroutine") = false := by kernel_rfl
/-- simulator/simulatorlaw34.three -/
def c_law34_three : ACode :=
  .seq (.region false [⟨(some 0), .mk 25 [(.str []), (.own 14 []), (.own 3 [])], none⟩])
  (.seq (.region false [⟨(some 1), .call (.const (.fn 32 [] [])) [(.inr (.const (.str [97])))], none⟩,
      ⟨(some 2), .call (.const (.fn 32 [] [])) [(.inr (.const (.str [98])))], none⟩,
      ⟨(some 3), .call (.const (.fn 32 [] [])) [(.inr (.const (.str [99])))], none⟩,
      ⟨(some 4), .lit 65 14 [(.tmp 1), (.tmp 2), (.tmp 3)], none⟩,
      ⟨(some 5), .build [(.int .i64 0), (.int .i64 0), (.int .i64 0)] [(0, 1, (.const (.int .i64 0))), (1, 1, (.const (.int .i64 1))), (2, 1, (.const (.int .i64 4)))], none⟩,
      ⟨(some 6), .build [(.int .i64 0), (.int .i64 0), (.int .i64 0)] [(0, 1, (.const (.int .i64 1))), (1, 1, (.const (.int .i64 2))), (2, 1, (.const (.int .i64 3)))], none⟩,
      ⟨(some 7), .lit 36 3 [(.tmp 5), (.tmp 6)], none⟩,
      ⟨(some 8), .build [(.str []), (.own 14 []), (.own 3 [])] [(0, 1, (.const (.str [112]))), (1, 1, (.tmp 4)), (2, 1, (.tmp 7))], none⟩,
      ⟨none, .st 3 (.tmp 0) (.tmp 8), none⟩])
   (.ret))
def a_law34_three : AFn := ⟨9, [.agg 0 3], c_law34_three, false⟩
theorem t_law34_three : cFn Tryz.prog takesW Tryz.f24 = some a_law34_three := by kernel_rfl
theorem n_law34_three : (Tryz.f24.name == "runtime.NumGoroutine") = false := by kernel_rfl
def c_partition_Least_l0b : ACode :=
  .seq (.region false [⟨(some 23), .bin .lss .prim (.tmp 22) (.tmp 21), none⟩])
  (.seq (.cond (.tmp 23) (.skip)
    (.exit 0))
   (.seq (.block 1 (.seq (.region false [⟨(some 24), .ia (.slice 3) (.tmp 20) (.tmp 22), none⟩,
         ⟨(some 25), .lda 3 (.tmp 24), none⟩,
         ⟨(some 9), .mk 36 [(.int .i64 0), (.int .i64 0), (.int .i64 0)], none⟩,
         ⟨none, .st 3 (.tmp 9) (.tmp 25), none⟩])
      (.region false [⟨(some 26), .mv (.tmp 7), none⟩,
         ⟨(some 27), .fa 2 (.tmp 9), none⟩,
         ⟨(some 28), .ldc (.tmp 27), none⟩,
         ⟨(some 29), .min [(.tmp 26), (.tmp 28)], none⟩,
         ⟨(some 7), .take 29, none⟩])))
    (.region false [⟨(some 30), .bin .add .prim (.tmp 22) (.const (.int .i64 1)), none⟩,
       ⟨(some 22), .mv (.tmp 30), none⟩])))
def c_partition_Least_l0 : ACode := .loop c_partition_Least_l0b
def c_partition_Least_j1 : ACode :=
  .seq (.region false [⟨(some 31), .take 7, none⟩,
     ⟨(some 4), .take 31, none⟩,
     ⟨(some 5), .mv (.const (.bool true)), none⟩])
  (.ret)
/-- simulator/partition.Least -/
def c_partition_Least : ACode :=
  .seq (.region false [⟨(some 2), .box 25 3 (.tmp 0), none⟩,
     ⟨(some 4), .mv (.const (.int .i64 0)), none⟩,
     ⟨(some 5), .mv (.const (.bool false)), none⟩])
  (.seq (.region false [⟨(some 10), .lda 3 (.tmp 2), none⟩,
      ⟨(some 11), .mv (.tmp 1), none⟩,
      ⟨(some 12), .call (.const (.fn 16 [] [])) [(.inr (.tmp 10)), (.inr (.tmp 11))], none⟩,
      ⟨(some 6), .take 12, none⟩])
   (.seq (.seq (.region false [⟨(some 13), .mv (.tmp 6), none⟩,
        ⟨(some 14), .len .slice (.tmp 13), none⟩,
        ⟨(some 15), .bin .eql .prim (.tmp 14) (.const (.int .i64 0)), none⟩])
     (.cond (.tmp 15) (.seq (.region false [⟨(some 4), .mv (.const (.int .i64 0)), none⟩,
          ⟨(some 5), .mv (.const (.bool false)), none⟩])
       (.ret))
      (.skip)))
    (.seq (.region false [⟨(some 16), .mv (.tmp 6), none⟩,
        ⟨(some 17), .ia (.slice 3) (.tmp 16) (.const (.int .i64 0)), none⟩,
        ⟨(some 18), .fa 2 (.tmp 17), none⟩,
        ⟨(some 19), .ldc (.tmp 18), none⟩,
        ⟨(some 7), .take 19, none⟩])
     (.seq (.seq (.region false [⟨(some 20), .mv (.tmp 6), none⟩,
          ⟨(some 21), .len .slice (.tmp 20), none⟩,
          ⟨(some 22), .mv (.const (.int .i64 0)), none⟩])
       (.block 0 (c_partition_Least_l0)))
      c_partition_Least_j1))))
def a_partition_Least : AFn := ⟨32, [.tmp 4, .tmp 5], c_partition_Least, false⟩
theorem t_partition_Least : cFn Tryz.prog takesW Tryz.f11 = some a_partition_Least := by kernel_rfl
theorem n_partition_Least : (Tryz.f11.name == "runtime.NumGoroutine") = false := by kernel_rfl
def c_partition_Ahead_l0b : ACode :=
  .seq (.region false [⟨(some 24), .bin .lss .prim (.tmp 23) (.tmp 22), none⟩])
  (.seq (.cond (.tmp 24) (.skip)
    (.exit 0))
   (.seq (.block 1 (.seq (.region false [⟨(some 25), .mv (.tmp 23), none⟩,
         ⟨(some 5), .take 25, none⟩])
      (.seq (.region false [⟨(some 26), .mv (.tmp 4), none⟩,
          ⟨(some 27), .mv (.tmp 5), none⟩,
          ⟨(some 28), .lit 3 1 [(.const (.int .i64 (-1)))], none⟩,
          ⟨(some 29), .mv (.tmp 3), none⟩,
          ⟨(some 30), .call (.const (.fn 28 [] [])) [(.inr (.tmp 28)), (.inr (.tmp 29))], none⟩,
          ⟨(some 31), .ia (.slice 1) (.tmp 26) (.tmp 27), none⟩,
          ⟨none, .stt (.tmp 31) 30, none⟩])
       (.region false [⟨(some 32), .mv (.tmp 4), none⟩,
          ⟨(some 33), .mv (.tmp 5), none⟩,
          ⟨(some 34), .ia (.slice 1) (.tmp 32) (.tmp 33), none⟩,
          ⟨(some 35), .ldc (.tmp 34), none⟩,
          ⟨(some 36), .mv (.tmp 5), none⟩,
          ⟨(some 37), .ia (.slice 1) (.tmp 35) (.tmp 36), none⟩,
          ⟨none, .st 1 (.tmp 37) (.const (.int .i64 0)), none⟩]))))
    (.region false [⟨(some 38), .bin .add .prim (.tmp 23) (.const (.int .i64 1)), none⟩,
       ⟨(some 23), .mv (.tmp 38), none⟩])))
def c_partition_Ahead_l0 : ACode := .loop c_partition_Ahead_l0b
def c_partition_Ahead_l2b : ACode :=
  .seq (.region false [⟨(some 43), .bin .lss .prim (.tmp 42) (.tmp 41), none⟩])
  (.seq (.cond (.tmp 43) (.skip)
    (.exit 2))
   (.seq (.block 3 (.seq (.region false [⟨(some 44), .ia (.slice 3) (.tmp 40) (.tmp 42), none⟩,
         ⟨(some 45), .lda 3 (.tmp 44), none⟩,
         ⟨(some 7), .mk 36 [(.int .i64 0), (.int .i64 0), (.int .i64 0)], none⟩,
         ⟨none, .st 3 (.tmp 7) (.tmp 45), none⟩])
      (.region true [⟨(some 46), .mv (.tmp 4), none⟩,
         ⟨(some 47), .fa 0 (.tmp 7), none⟩,
         ⟨(some 48), .ldc (.tmp 47), none⟩,
         ⟨(some 49), .ia (.slice 1) (.tmp 46) (.tmp 48), none⟩,
         ⟨(some 50), .ldc (.tmp 49), none⟩,
         ⟨(some 51), .fa 1 (.tmp 7), none⟩,
         ⟨(some 52), .ldc (.tmp 51), none⟩,
         ⟨(some 53), .mv (.tmp 4), none⟩,
         ⟨(some 54), .fa 0 (.tmp 7), none⟩,
         ⟨(some 55), .ldc (.tmp 54), none⟩,
         ⟨(some 56), .ia (.slice 1) (.tmp 53) (.tmp 55), none⟩,
         ⟨(some 57), .ldc (.tmp 56), none⟩,
         ⟨(some 58), .fa 1 (.tmp 7), none⟩,
         ⟨(some 59), .ldc (.tmp 58), none⟩,
         ⟨(some 60), .ia (.slice 1) (.tmp 57) (.tmp 59), none⟩,
         ⟨(some 61), .ldc (.tmp 60), none⟩,
         ⟨(some 62), .fa 2 (.tmp 7), none⟩,
         ⟨(some 63), .ldc (.tmp 62), none⟩,
         ⟨(some 64), .call (.const (.fn 29 [] [])) [(.inr (.tmp 61)), (.inr (.tmp 63))], none⟩,
         ⟨(some 65), .ia (.slice 1) (.tmp 50) (.tmp 52), none⟩,
         ⟨none, .stt (.tmp 65) 64, none⟩])))
    (.region false [⟨(some 66), .bin .add .prim (.tmp 42) (.const (.int .i64 1)), none⟩,
       ⟨(some 42), .mv (.tmp 66), none⟩])))
def c_partition_Ahead_l2 : ACode := .loop c_partition_Ahead_l2b
def c_partition_Ahead_l6b : ACode :=
  .seq (.region false [⟨(some 77), .bin .lss .prim (.tmp 76) (.tmp 75), none⟩])
  (.seq (.cond (.tmp 77) (.skip)
    (.exit 8))
   (.seq (.block 9 (.seq (.region false [⟨(some 78), .mv (.tmp 76), none⟩,
         ⟨(some 10), .take 78, none⟩])
      (.seq (.region true [⟨(some 79), .mv (.tmp 4), none⟩,
          ⟨(some 80), .mv (.tmp 9), none⟩,
          ⟨(some 81), .ia (.slice 1) (.tmp 79) (.tmp 80), none⟩,
          ⟨(some 82), .ldc (.tmp 81), none⟩,
          ⟨(some 83), .mv (.tmp 8), none⟩,
          ⟨(some 84), .ia (.slice 1) (.tmp 82) (.tmp 83), none⟩,
          ⟨(some 85), .ldc (.tmp 84), none⟩,
          ⟨(some 86), .mv (.tmp 4), none⟩,
          ⟨(some 87), .mv (.tmp 8), none⟩,
          ⟨(some 88), .ia (.slice 1) (.tmp 86) (.tmp 87), none⟩,
          ⟨(some 89), .ldc (.tmp 88), none⟩,
          ⟨(some 90), .mv (.tmp 10), none⟩,
          ⟨(some 91), .ia (.slice 1) (.tmp 89) (.tmp 90), none⟩,
          ⟨(some 92), .ldc (.tmp 91), none⟩,
          ⟨(some 11), .mv (.tmp 85), none⟩,
          ⟨(some 12), .mv (.tmp 92), none⟩])
       (.seq (.region false [⟨(some 93), .mv (.tmp 11), none⟩,
           ⟨(some 94), .bin .neq .prim (.tmp 93) (.const (.int .i64 (-1))), none⟩,
           ⟨(some 95), .mv (.tmp 94), none⟩,
           ⟨(some 96), .mv (.tmp 12), (some (95, true))⟩,
           ⟨(some 97), .bin .neq .prim (.tmp 96) (.const (.int .i64 (-1))), (some (95, true))⟩,
           ⟨(some 98), .pick (.tmp 95) (.tmp 97) (.const (.bool false)), none⟩])
        (.cond (.tmp 98) (.region true [⟨(some 99), .mv (.tmp 4), none⟩,
            ⟨(some 100), .mv (.tmp 9), none⟩,
            ⟨(some 101), .ia (.slice 1) (.tmp 99) (.tmp 100), none⟩,
            ⟨(some 102), .ldc (.tmp 101), none⟩,
            ⟨(some 103), .mv (.tmp 10), none⟩,
            ⟨(some 104), .mv (.tmp 4), none⟩,
            ⟨(some 105), .mv (.tmp 9), none⟩,
            ⟨(some 106), .ia (.slice 1) (.tmp 104) (.tmp 105), none⟩,
            ⟨(some 107), .ldc (.tmp 106), none⟩,
            ⟨(some 108), .mv (.tmp 10), none⟩,
            ⟨(some 109), .ia (.slice 1) (.tmp 107) (.tmp 108), none⟩,
            ⟨(some 110), .ldc (.tmp 109), none⟩,
            ⟨(some 111), .mv (.tmp 11), none⟩,
            ⟨(some 112), .mv (.tmp 12), none⟩,
            ⟨(some 113), .call (.const (.fn 30 [] [])) [(.inr (.tmp 111)), (.inr (.tmp 112))], none⟩,
            ⟨(some 114), .call (.const (.fn 29 [] [])) [(.inr (.tmp 110)), (.inr (.tmp 113))], none⟩,
            ⟨(some 115), .ia (.slice 1) (.tmp 102) (.tmp 103), none⟩,
            ⟨none, .stt (.tmp 115) 114, none⟩])
         (.skip))))))
    (.region false [⟨(some 116), .bin .add .prim (.tmp 76) (.const (.int .i64 1)), none⟩,
       ⟨(some 76), .mv (.tmp 116), none⟩])))
def c_partition_Ahead_l6 : ACode := .loop c_partition_Ahead_l6b
def c_partition_Ahead_j7 : ACode :=
  .region false [⟨(some 117), .bin .add .prim (.tmp 72) (.const (.int .i64 1)), none⟩,
    ⟨(some 72), .mv (.tmp 117), none⟩]
def c_partition_Ahead_l5b : ACode :=
  .seq (.region false [⟨(some 73), .bin .lss .prim (.tmp 72) (.tmp 71), none⟩])
  (.seq (.cond (.tmp 73) (.skip)
    (.exit 6))
   (.seq (.block 7 (.seq (.region false [⟨(some 74), .mv (.tmp 72), none⟩,
         ⟨(some 9), .take 74, none⟩])
      (.seq (.region false [⟨(some 75), .mv (.tmp 3), none⟩,
          ⟨(some 76), .mv (.const (.int .i64 0)), none⟩])
       (.block 8 (c_partition_Ahead_l6)))))
    c_partition_Ahead_j7))
def c_partition_Ahead_l5 : ACode := .loop c_partition_Ahead_l5b
def c_partition_Ahead_j8 : ACode :=
  .region false [⟨(some 118), .bin .add .prim (.tmp 68) (.const (.int .i64 1)), none⟩,
    ⟨(some 68), .mv (.tmp 118), none⟩]
def c_partition_Ahead_l4b : ACode :=
  .seq (.region false [⟨(some 69), .bin .lss .prim (.tmp 68) (.tmp 67), none⟩])
  (.seq (.cond (.tmp 69) (.skip)
    (.exit 4))
   (.seq (.block 5 (.seq (.region false [⟨(some 70), .mv (.tmp 68), none⟩,
         ⟨(some 8), .take 70, none⟩])
      (.seq (.region false [⟨(some 71), .mv (.tmp 3), none⟩,
          ⟨(some 72), .mv (.const (.int .i64 0)), none⟩])
       (.block 6 (c_partition_Ahead_l5)))))
    c_partition_Ahead_j8))
def c_partition_Ahead_l4 : ACode := .loop c_partition_Ahead_l4b
def c_partition_Ahead_j9 : ACode :=
  .seq (.region false [⟨(some 119), .take 4, none⟩,
     ⟨(some 2), .take 119, none⟩])
  (.ret)
def c_partition_Ahead_j3 : ACode :=
  .seq (.seq (.region false [⟨(some 67), .mv (.tmp 3), none⟩,
      ⟨(some 68), .mv (.const (.int .i64 0)), none⟩])
   (.block 4 (c_partition_Ahead_l4)))
  c_partition_Ahead_j9
def c_partition_Ahead_j1 : ACode :=
  .seq (.seq (.region false [⟨(some 39), .fa 2 (.tmp 1), none⟩,
      ⟨(some 40), .ldc (.tmp 39), none⟩,
      ⟨(some 41), .len .slice (.tmp 40), none⟩,
      ⟨(some 42), .mv (.const (.int .i64 0)), none⟩])
   (.block 2 (c_partition_Ahead_l2)))
  c_partition_Ahead_j3
/-- simulator/partition.Ahead -/
def c_partition_Ahead : ACode :=
  .seq (.region false [⟨(some 1), .box 25 3 (.tmp 0), none⟩,
     ⟨(some 2), .mv (.const (.own 1 [])), none⟩])
  (.seq (.seq (.region false [⟨(some 13), .lda 3 (.tmp 1), none⟩,
       ⟨(some 14), .call (.const (.fn 25 [] [])) [(.inr (.tmp 13))], none⟩,
       ⟨(some 15), .bin .neq .prim (.tmp 14) (.const (.int .i64 0)), none⟩])
    (.cond (.tmp 15) (.seq (.region false [⟨(some 2), .mv (.const (.own 1 [])), none⟩])
      (.ret))
     (.skip)))
   (.seq (.region false [⟨(some 16), .fa 1 (.tmp 1), none⟩,
       ⟨(some 17), .ldc (.tmp 16), none⟩,
       ⟨(some 18), .len .slice (.tmp 17), none⟩,
       ⟨(some 3), .take 18, none⟩])
    (.seq (.region false [⟨(some 19), .mv (.tmp 3), none⟩,
        ⟨(some 20), .mksl 26 [(.own 1 [])] (.tmp 19), none⟩,
        ⟨(some 4), .take 20, none⟩])
     (.seq (.seq (.region false [⟨(some 21), .mv (.tmp 4), none⟩,
          ⟨(some 22), .len .slice (.tmp 21), none⟩,
          ⟨(some 23), .mv (.const (.int .i64 0)), none⟩])
       (.block 0 (c_partition_Ahead_l0)))
      c_partition_Ahead_j1))))
def a_partition_Ahead : AFn := ⟨120, [.tmp 2], c_partition_Ahead, false⟩
theorem t_partition_Ahead : cFn Tryz.prog takesW Tryz.f21 = some a_partition_Ahead := by kernel_rfl
theorem n_partition_Ahead : (Tryz.f21.name == "runtime.NumGoroutine") = false := by kernel_rfl
def c_partition_Check_l0b : ACode :=
  .seq (.region false [⟨(some 24), .bin .lss .prim (.tmp 23) (.tmp 22), none⟩])
  (.seq (.cond (.tmp 24) (.skip)
    (.exit 0))
   (.seq (.block 1 (.seq (.region false [⟨(some 25), .ia (.slice 1) (.tmp 21) (.tmp 23), none⟩,
         ⟨(some 26), .ldc (.tmp 25), none⟩,
         ⟨(some 9), .take 26, none⟩])
      (.seq (.seq (.region false [⟨(some 27), .mv (.tmp 9), none⟩,
           ⟨(some 28), .bin .lss .prim (.tmp 27) (.const (.int .i64 0)), none⟩,
           ⟨(some 29), .mv (.tmp 28), none⟩,
           ⟨(some 30), .mv (.tmp 9), (some (29, false))⟩,
           ⟨(some 31), .bin .geq .prim (.tmp 30) (.const (.int .i64 16)), (some (29, false))⟩,
           ⟨(some 32), .pick (.tmp 29) (.const (.bool true)) (.tmp 31), none⟩])
        (.cond (.tmp 32) (.seq (.region false [⟨(some 4), .mv (.const (.int .i64 2)), none⟩])
          (.ret))
         (.skip)))
       (.seq (.region false [⟨(some 33), .mv (.tmp 9), none⟩,
           ⟨(some 34), .ia (.arr 16 1) (.tmp 6) (.tmp 33), none⟩,
           ⟨(some 35), .ldc (.tmp 34), none⟩,
           ⟨(some 36), .un .not (.tmp 35), none⟩])
        (.cond (.tmp 36) (.seq (.region false [⟨(some 37), .mv (.tmp 9), none⟩,
             ⟨(some 38), .ia (.arr 16 1) (.tmp 6) (.tmp 37), none⟩,
             ⟨none, .st 1 (.tmp 38) (.const (.bool true)), none⟩])
          (.region false [⟨(some 39), .mv (.tmp 7), none⟩,
             ⟨(some 40), .bin .add .prim (.tmp 39) (.const (.int .i64 1)), none⟩,
             ⟨(some 7), .take 40, none⟩]))
         (.skip))))))
    (.region false [⟨(some 41), .bin .add .prim (.tmp 23) (.const (.int .i64 1)), none⟩,
       ⟨(some 23), .mv (.tmp 41), none⟩])))
def c_partition_Check_l0 : ACode := .loop c_partition_Check_l0b
def c_partition_Check_j1 : ACode :=
  .seq (.seq (.region false [⟨(some 42), .mv (.tmp 7), none⟩,
      ⟨(some 43), .slice (.arr 16 1) (.tmp 6) none (some (.tmp 42)), none⟩,
      ⟨(some 44), .call (.const (.fn 26 [] [])) [(.inr (.tmp 43)), (.inr (.const (.bool false)))], none⟩])
   (.cond (.tmp 44) (.seq (.region false [⟨(some 4), .mv (.const (.int .i64 12)), none⟩])
     (.ret))
    (.skip)))
  (.seq (.region false [⟨(some 4), .mv (.const (.int .i64 0)), none⟩])
   (.ret))
/-- simulator/partition.Check -/
def c_partition_Check : ACode :=
  .seq (.region false [⟨(some 2), .box 25 3 (.tmp 0), none⟩,
     ⟨(some 4), .mv (.const (.int .i64 0)), none⟩])
  (.seq (.seq (.region false [⟨(some 10), .lda 3 (.tmp 2), none⟩,
       ⟨(some 11), .call (.const (.fn 25 [] [])) [(.inr (.tmp 10))], none⟩,
       ⟨(some 5), .take 11, none⟩])
    (.seq (.region false [⟨(some 12), .mv (.tmp 5), none⟩,
        ⟨(some 13), .bin .neq .prim (.tmp 12) (.const (.int .i64 0)), none⟩])
     (.cond (.tmp 13) (.seq (.region false [⟨(some 14), .take 5, none⟩,
          ⟨(some 4), .take 14, none⟩])
       (.ret))
      (.skip))))
   (.seq (.seq (.region false [⟨(some 15), .mv (.tmp 1), none⟩,
        ⟨(some 16), .len .slice (.tmp 15), none⟩,
        ⟨(some 17), .fa 1 (.tmp 2), none⟩,
        ⟨(some 18), .ldc (.tmp 17), none⟩,
        ⟨(some 19), .len .slice (.tmp 18), none⟩,
        ⟨(some 20), .bin .neq .prim (.tmp 16) (.tmp 19), none⟩])
     (.cond (.tmp 20) (.seq (.region false [⟨(some 4), .mv (.const (.int .i64 8)), none⟩])
       (.ret))
      (.skip)))
    (.seq (.region false [⟨(some 6), .mk 48 [(.bool false), (.bool false), (.bool false), (.bool false), (.bool false), (.bool false), (.bool false), (.bool false), (.bool false), (.bool false), (.bool false), (.bool false), (.bool false), (.bool false), (.bool false), (.bool false)], none⟩])
     (.seq (.region false [⟨(some 7), .mv (.const (.int .i64 0)), none⟩])
      (.seq (.seq (.region false [⟨(some 21), .mv (.tmp 1), none⟩,
           ⟨(some 22), .len .slice (.tmp 21), none⟩,
           ⟨(some 23), .mv (.const (.int .i64 0)), none⟩])
        (.block 0 (c_partition_Check_l0)))
       c_partition_Check_j1)))))
def a_partition_Check : AFn := ⟨45, [.tmp 4], c_partition_Check, false⟩
theorem t_partition_Check : cFn Tryz.prog takesW Tryz.f13 = some a_partition_Check := by kernel_rfl
theorem n_partition_Check : (Tryz.f13.name == "runtime.NumGoroutine") = false := by kernel_rfl
def c_partition_Cut_l0b : ACode :=
  .seq (.region false [⟨(some 16), .bin .lss .prim (.tmp 15) (.tmp 14), none⟩])
  (.seq (.cond (.tmp 16) (.skip)
    (.exit 0))
   (.seq (.block 1 (.seq (.region false [⟨(some 17), .ia (.slice 3) (.tmp 13) (.tmp 15), none⟩,
         ⟨(some 18), .lda 3 (.tmp 17), none⟩,
         ⟨(some 7), .mk 36 [(.int .i64 0), (.int .i64 0), (.int .i64 0)], none⟩,
         ⟨none, .st 3 (.tmp 7) (.tmp 18), none⟩])
      (.seq (.region true [⟨(some 19), .mv (.tmp 1), none⟩,
          ⟨(some 20), .fa 0 (.tmp 7), none⟩,
          ⟨(some 21), .ldc (.tmp 20), none⟩,
          ⟨(some 22), .ia (.slice 1) (.tmp 19) (.tmp 21), none⟩,
          ⟨(some 23), .ldc (.tmp 22), none⟩,
          ⟨(some 24), .mv (.tmp 1), none⟩,
          ⟨(some 25), .fa 1 (.tmp 7), none⟩,
          ⟨(some 26), .ldc (.tmp 25), none⟩,
          ⟨(some 27), .ia (.slice 1) (.tmp 24) (.tmp 26), none⟩,
          ⟨(some 28), .ldc (.tmp 27), none⟩,
          ⟨(some 29), .bin .neq .prim (.tmp 23) (.tmp 28), none⟩])
       (.cond (.tmp 29) (.region false [⟨(some 30), .take 5, none⟩,
           ⟨(some 31), .lda 3 (.tmp 7), none⟩,
           ⟨(some 32), .lit 36 3 [(.tmp 31)], none⟩,
           ⟨(some 33), .app 3 24 30 (.tmp 32), none⟩,
           ⟨(some 5), .take 33, none⟩])
        (.skip)))))
    (.region false [⟨(some 34), .bin .add .prim (.tmp 15) (.const (.int .i64 1)), none⟩,
       ⟨(some 15), .mv (.tmp 34), none⟩])))
def c_partition_Cut_l0 : ACode := .loop c_partition_Cut_l0b
def c_partition_Cut_j1 : ACode :=
  .seq (.region false [⟨(some 35), .take 5, none⟩,
     ⟨(some 4), .take 35, none⟩])
  (.ret)
/-- simulator/partition.Cut -/
def c_partition_Cut : ACode :=
  .seq (.region false [⟨(some 2), .box 25 3 (.tmp 0), none⟩,
     ⟨(some 4), .mv (.const (.own 3 [])), none⟩])
  (.seq (.seq (.region false [⟨(some 8), .lda 3 (.tmp 2), none⟩,
       ⟨(some 9), .mv (.tmp 1), none⟩,
       ⟨(some 10), .call (.const (.fn 13 [] [])) [(.inr (.tmp 8)), (.inr (.tmp 9))], none⟩,
       ⟨(some 11), .bin .neq .prim (.tmp 10) (.const (.int .i64 0)), none⟩])
    (.cond (.tmp 11) (.seq (.region false [⟨(some 4), .mv (.const (.own 3 [])), none⟩])
      (.ret))
     (.skip)))
   (.seq (.region false [⟨(some 5), .mv (.const (.own 3 [])), none⟩])
    (.seq (.seq (.region false [⟨(some 12), .fa 2 (.tmp 2), none⟩,
         ⟨(some 13), .ldc (.tmp 12), none⟩,
         ⟨(some 14), .len .slice (.tmp 13), none⟩,
         ⟨(some 15), .mv (.const (.int .i64 0)), none⟩])
      (.block 0 (c_partition_Cut_l0)))
     c_partition_Cut_j1)))
def a_partition_Cut : AFn := ⟨36, [.tmp 4], c_partition_Cut, false⟩
theorem t_partition_Cut : cFn Tryz.prog takesW Tryz.f16 = some a_partition_Cut := by kernel_rfl
theorem n_partition_Cut : (Tryz.f16.name == "runtime.NumGoroutine") = false := by kernel_rfl
def c_r34_SameArcs_l0b : ACode :=
  .seq (.seq (.region false [⟨(some 11), .mv (.tmp 5), none⟩,
      ⟨(some 12), .mv (.tmp 0), none⟩,
      ⟨(some 13), .len .slice (.tmp 12), none⟩,
      ⟨(some 14), .bin .lss .prim (.tmp 11) (.tmp 13), none⟩])
   (.cond (.tmp 14) (.skip)
    (.exit 0)))
  (.seq (.block 1 (.seq (.region true [⟨(some 17), .mv (.tmp 0), none⟩,
        ⟨(some 18), .mv (.tmp 5), none⟩,
        ⟨(some 19), .ia (.slice 3) (.tmp 17) (.tmp 18), none⟩,
        ⟨(some 20), .lda 3 (.tmp 19), none⟩,
        ⟨(some 21), .mv (.tmp 1), none⟩,
        ⟨(some 22), .mv (.tmp 5), none⟩,
        ⟨(some 23), .ia (.slice 3) (.tmp 21) (.tmp 22), none⟩,
        ⟨(some 24), .lda 3 (.tmp 23), none⟩,
        ⟨(some 25), .bin .neq (.struct [.int, .int, .int]) (.tmp 20) (.tmp 24), none⟩])
     (.cond (.tmp 25) (.seq (.region false [⟨(some 4), .mv (.const (.bool false)), none⟩])
       (.ret))
      (.skip))))
   (.region false [⟨(some 15), .mv (.tmp 5), none⟩,
      ⟨(some 16), .bin .add .prim (.tmp 15) (.const (.int .i64 1)), none⟩,
      ⟨(some 5), .take 16, none⟩]))
def c_r34_SameArcs_l0 : ACode := .loop c_r34_SameArcs_l0b
def c_r34_SameArcs_j1 : ACode :=
  .seq (.region false [⟨(some 4), .mv (.const (.bool true)), none⟩])
  (.ret)
/-- simulator/simulatorref34.SameArcs -/
def c_r34_SameArcs : ACode :=
  .seq (.region false [⟨(some 4), .mv (.const (.bool false)), none⟩])
  (.seq (.seq (.region false [⟨(some 6), .mv (.tmp 0), none⟩,
       ⟨(some 7), .len .slice (.tmp 6), none⟩,
       ⟨(some 8), .mv (.tmp 1), none⟩,
       ⟨(some 9), .len .slice (.tmp 8), none⟩,
       ⟨(some 10), .bin .neq .prim (.tmp 7) (.tmp 9), none⟩])
    (.cond (.tmp 10) (.seq (.region false [⟨(some 4), .mv (.const (.bool false)), none⟩])
      (.ret))
     (.skip)))
   (.seq (.seq (.region false [⟨(some 5), .mv (.const (.int .i64 0)), none⟩])
     (.block 0 (c_r34_SameArcs_l0)))
    c_r34_SameArcs_j1))
def a_r34_SameArcs : AFn := ⟨26, [.tmp 4], c_r34_SameArcs, false⟩
theorem t_r34_SameArcs : cFn Tryz.prog takesW Tryz.f15 = some a_r34_SameArcs := by kernel_rfl
theorem n_r34_SameArcs : (Tryz.f15.name == "runtime.NumGoroutine") = false := by kernel_rfl
/-- simulator/simulatorlaw34.site -/
def c_law34_site : ACode :=
  .seq (.region false [⟨(some 2), .mk 65 [(.str []), (.own 3 []), (.own 17 []), (.own 3 []), (.own 3 []), (.own 1 []), (.own 1 []), (.own 1 []), (.own 1 []), (.own 1 []), (.own 4 []), (.own 5 []), (.own 3 []), (.own 4 [])], none⟩])
  (.seq (.region false [⟨(some 3), .mv (.tmp 0), none⟩,
      ⟨(some 4), .build [(.str []), (.own 3 []), (.own 17 []), (.own 3 []), (.own 3 []), (.own 1 []), (.own 1 []), (.own 1 []), (.own 1 []), (.own 1 []), (.own 4 []), (.own 5 []), (.own 3 [])] [(0, 1, (.tmp 3))], none⟩,
      ⟨(some 5), .build [(.str []), (.own 3 []), (.own 17 []), (.own 3 []), (.own 3 []), (.own 1 []), (.own 1 []), (.own 1 []), (.own 1 []), (.own 1 []), (.own 4 []), (.own 5 []), (.own 3 []), (.own 4 [])] [(0, 13, (.tmp 4))], none⟩,
      ⟨none, .st 14 (.tmp 2) (.tmp 5), none⟩])
   (.ret))
def a_law34_site : AFn := ⟨6, [.agg 2 14], c_law34_site, false⟩
theorem t_law34_site : cFn Tryz.prog takesW Tryz.f32 = some a_law34_site := by kernel_rfl
theorem n_law34_site : (Tryz.f32.name == "runtime.NumGoroutine") = false := by kernel_rfl
def c_code_Check_l0b : ACode :=
  .seq (.region false [⟨(some 35), .bin .lss .prim (.tmp 34) (.tmp 33), none⟩])
  (.seq (.cond (.tmp 35) (.skip)
    (.exit 1))
   (.seq (.block 2 (.seq (.region false [⟨(some 36), .ia (.slice 14) (.tmp 32) (.tmp 34), none⟩,
         ⟨(some 37), .lda 14 (.tmp 36), none⟩,
         ⟨(some 6), .mk 65 [(.str []), (.own 3 []), (.own 17 []), (.own 3 []), (.own 3 []), (.own 1 []), (.own 1 []), (.own 1 []), (.own 1 []), (.own 1 []), (.own 4 []), (.own 5 []), (.own 3 []), (.own 4 [])], none⟩,
         ⟨none, .st 14 (.tmp 6) (.tmp 37), none⟩])
      (.seq (.seq (.region false [⟨(some 38), .fa 0 (.tmp 1), none⟩,
           ⟨(some 39), .ldc (.tmp 38), none⟩,
           ⟨(some 40), .fa 0 (.tmp 6), none⟩,
           ⟨(some 41), .lda 13 (.tmp 40), none⟩,
           ⟨(some 42), .lit 62 13 [(.tmp 41)], none⟩,
           ⟨(some 43), .build [(.str []), (.own 3 []), (.own 13 []), (.own 3 [])] [(0, 1, (.tmp 39)), (2, 1, (.tmp 42))], none⟩,
           ⟨(some 44), .call (.const (.fn 34 [] [])) [(.inr (.tmp 43))], none⟩,
           ⟨(some 7), .take 44, none⟩])
        (.seq (.region false [⟨(some 45), .mv (.tmp 7), none⟩,
            ⟨(some 46), .bin .neq .prim (.tmp 45) (.const (.int .i64 0)), none⟩])
         (.cond (.tmp 46) (.seq (.region false [⟨(some 47), .take 7, none⟩,
              ⟨(some 2), .take 47, none⟩])
           (.ret))
          (.skip))))
       (.seq (.block 3 (.seq (.region false [⟨(some 49), .mv (.tmp 4), none⟩,
             ⟨(some 50), .fa 0 (.tmp 6), none⟩,
             ⟨(some 51), .fa 0 (.tmp 50), none⟩,
             ⟨(some 52), .ldc (.tmp 51), none⟩,
             ⟨(some 53), .look (.one .str) (.bool false) (.tmp 49) (.tmp 52) false, none⟩,
             ⟨(some 48), .take 53, none⟩])
          (.cond (.tmp 48) (.seq (.region false [⟨(some 2), .mv (.const (.int .i64 4)), none⟩])
            (.ret))
           (.seq (.region false [⟨(some 55), .lda 14 (.tmp 6), none⟩,
               ⟨(some 56), .call (.const (.fn 35 [] [])) [(.inr (.tmp 55))], none⟩,
               ⟨(some 57), .un .not (.tmp 56), none⟩,
               ⟨(some 54), .take 57, none⟩])
            (.cond (.tmp 54) (.seq (.region false [⟨(some 2), .mv (.const (.int .i64 8)), none⟩])
              (.ret))
             (.skip))))))
        (.region false [⟨(some 58), .mv (.tmp 4), none⟩,
           ⟨(some 59), .fa 0 (.tmp 6), none⟩,
           ⟨(some 60), .fa 0 (.tmp 59), none⟩,
           ⟨(some 61), .ldc (.tmp 60), none⟩,
           ⟨none, .mupd (.one .str) (.tmp 58) (.tmp 61) (.const (.bool true)), none⟩])))))
    (.region false [⟨(some 62), .bin .add .prim (.tmp 34) (.const (.int .i64 1)), none⟩,
       ⟨(some 34), .mv (.tmp 62), none⟩])))
def c_code_Check_l0 : ACode := .loop c_code_Check_l0b
def c_code_Check_l3b : ACode :=
  .seq (.region false [⟨(some 80), .bin .lss .prim (.tmp 79) (.tmp 78), none⟩])
  (.seq (.cond (.tmp 80) (.skip)
    (.exit 6))
   (.seq (.block 7 (.seq (.region false [⟨(some 81), .ia (.slice 4) (.tmp 77) (.tmp 79), none⟩,
         ⟨(some 82), .lda 4 (.tmp 81), none⟩,
         ⟨(some 12), .mk 77 [(.str []), (.int .i64 0), (.int .i64 0), (.own 20 [])], none⟩,
         ⟨none, .st 4 (.tmp 12) (.tmp 82), none⟩])
      (.seq (.region false [⟨(some 83), .lda 3 (.tmp 1), none⟩,
          ⟨(some 84), .mv (.tmp 9), none⟩,
          ⟨(some 85), .lda 4 (.tmp 12), none⟩,
          ⟨(some 86), .call (.const (.fn 37 [] [])) [(.inr (.tmp 83)), (.inr (.tmp 84)), (.inr (.tmp 85))], none⟩,
          ⟨(some 13), .take 86, none⟩])
       (.seq (.region false [⟨(some 87), .mv (.tmp 13), none⟩,
           ⟨(some 88), .bin .neq .prim (.tmp 87) (.const (.int .i64 0)), none⟩])
        (.cond (.tmp 88) (.seq (.region false [⟨(some 89), .take 13, none⟩,
             ⟨(some 2), .take 89, none⟩])
          (.ret))
         (.skip))))))
    (.region false [⟨(some 90), .bin .add .prim (.tmp 79) (.const (.int .i64 1)), none⟩,
       ⟨(some 79), .mv (.tmp 90), none⟩])))
def c_code_Check_l3 : ACode := .loop c_code_Check_l3b
def c_code_Check_j4 : ACode :=
  .region false [⟨(some 91), .bin .add .prim (.tmp 71) (.const (.int .i64 1)), none⟩,
    ⟨(some 71), .mv (.tmp 91), none⟩]
def c_code_Check_l2b : ACode :=
  .seq (.region false [⟨(some 72), .bin .lss .prim (.tmp 71) (.tmp 70), none⟩])
  (.seq (.cond (.tmp 72) (.skip)
    (.exit 4))
   (.seq (.block 5 (.seq (.region false [⟨(some 73), .mv (.tmp 71), none⟩,
         ⟨(some 74), .ia (.slice 14) (.tmp 69) (.tmp 71), none⟩,
         ⟨(some 75), .lda 14 (.tmp 74), none⟩,
         ⟨(some 10), .mk 65 [(.str []), (.own 3 []), (.own 17 []), (.own 3 []), (.own 3 []), (.own 1 []), (.own 1 []), (.own 1 []), (.own 1 []), (.own 1 []), (.own 4 []), (.own 5 []), (.own 3 []), (.own 4 [])], none⟩,
         ⟨(some 9), .take 73, none⟩,
         ⟨none, .st 14 (.tmp 10) (.tmp 75), none⟩])
      (.seq (.region false [⟨(some 76), .fa 13 (.tmp 10), none⟩,
          ⟨(some 77), .ldc (.tmp 76), none⟩,
          ⟨(some 78), .len .slice (.tmp 77), none⟩,
          ⟨(some 79), .mv (.const (.int .i64 0)), none⟩])
       (.block 6 (c_code_Check_l3)))))
    c_code_Check_j4))
def c_code_Check_l2 : ACode := .loop c_code_Check_l2b
def c_code_Check_j5 : ACode :=
  .seq (.region false [⟨(some 2), .mv (.const (.int .i64 0)), none⟩])
  (.ret)
def c_code_Check_j1 : ACode :=
  .seq (.seq (.region false [⟨(some 63), .lda 3 (.tmp 1), none⟩,
      ⟨(some 64), .call (.const (.fn 36 [] [])) [(.inr (.tmp 63))], none⟩,
      ⟨(some 8), .take 64, none⟩])
   (.seq (.region false [⟨(some 65), .mv (.tmp 8), none⟩,
       ⟨(some 66), .bin .neq .prim (.tmp 65) (.const (.int .i64 0)), none⟩])
    (.cond (.tmp 66) (.seq (.region false [⟨(some 67), .take 8, none⟩,
         ⟨(some 2), .take 67, none⟩])
      (.ret))
     (.skip))))
  (.seq (.seq (.region false [⟨(some 68), .fa 1 (.tmp 1), none⟩,
       ⟨(some 69), .ldc (.tmp 68), none⟩,
       ⟨(some 70), .len .slice (.tmp 69), none⟩,
       ⟨(some 71), .mv (.const (.int .i64 0)), none⟩])
    (.block 4 (c_code_Check_l2)))
   c_code_Check_j5)
/-- simulator/code.Check -/
def c_code_Check : ACode :=
  .seq (.region false [⟨(some 1), .box 25 3 (.tmp 0), none⟩,
     ⟨(some 2), .mv (.const (.int .i64 0)), none⟩])
  (.seq (.seq (.region false [⟨(some 14), .fa 0 (.tmp 1), none⟩,
       ⟨(some 15), .ldc (.tmp 14), none⟩,
       ⟨(some 16), .call (.const (.fn 33 [] [])) [(.inr (.tmp 15))], none⟩,
       ⟨(some 3), .take 16, none⟩])
    (.seq (.region false [⟨(some 17), .mv (.tmp 3), none⟩,
        ⟨(some 18), .bin .neq .prim (.tmp 17) (.const (.int .i64 0)), none⟩])
     (.cond (.tmp 18) (.seq (.region false [⟨(some 19), .take 3, none⟩,
          ⟨(some 2), .take 19, none⟩])
       (.ret))
      (.skip))))
   (.seq (.block 0 (.seq (.region false [⟨(some 21), .fa 1 (.tmp 1), none⟩,
         ⟨(some 22), .ldc (.tmp 21), none⟩,
         ⟨(some 23), .len .slice (.tmp 22), none⟩,
         ⟨(some 24), .bin .eql .prim (.tmp 23) (.const (.int .i64 0)), none⟩,
         ⟨(some 20), .take 24, none⟩])
      (.cond (.tmp 20) (.seq (.region false [⟨(some 2), .mv (.const (.int .i64 7)), none⟩])
        (.ret))
       (.seq (.region false [⟨(some 26), .fa 1 (.tmp 1), none⟩,
           ⟨(some 27), .ldc (.tmp 26), none⟩,
           ⟨(some 28), .len .slice (.tmp 27), none⟩,
           ⟨(some 29), .bin .gtr .prim (.tmp 28) (.const (.int .i64 16)), none⟩,
           ⟨(some 25), .take 29, none⟩])
        (.cond (.tmp 25) (.seq (.region false [⟨(some 2), .mv (.const (.int .i64 6)), none⟩])
          (.ret))
         (.skip))))))
    (.seq (.region false [⟨(some 30), .mkmap, none⟩,
        ⟨(some 4), .take 30, none⟩])
     (.seq (.seq (.region false [⟨(some 31), .fa 1 (.tmp 1), none⟩,
          ⟨(some 32), .ldc (.tmp 31), none⟩,
          ⟨(some 33), .len .slice (.tmp 32), none⟩,
          ⟨(some 34), .mv (.const (.int .i64 0)), none⟩])
       (.block 1 (c_code_Check_l0)))
      c_code_Check_j1))))
def a_code_Check : AFn := ⟨92, [.tmp 2], c_code_Check, false⟩
theorem t_code_Check : cFn Tryz.prog takesW Tryz.f25 = some a_code_Check := by kernel_rfl
theorem n_code_Check : (Tryz.f25.name == "runtime.NumGoroutine") = false := by kernel_rfl
def c_slices_Repeat_Lint_int__l2b : ACode :=
  .seq (.seq (.region false [⟨(some 34), .mv (.tmp 8), none⟩,
      ⟨(some 35), .mv (.tmp 7), none⟩,
      ⟨(some 36), .len .slice (.tmp 35), none⟩,
      ⟨(some 37), .bin .lss .prim (.tmp 34) (.tmp 36), none⟩])
   (.cond (.tmp 37) (.skip)
    (.exit 0)))
  (.block 1 (.region true [⟨(some 38), .mv (.tmp 8), none⟩,
      ⟨(some 39), .mv (.tmp 7), none⟩,
      ⟨(some 40), .mv (.tmp 8), none⟩,
      ⟨(some 41), .slice (.slice 1) (.tmp 39) (some (.tmp 40)) none, none⟩,
      ⟨(some 42), .mv (.tmp 7), none⟩,
      ⟨(some 43), .mv (.tmp 8), none⟩,
      ⟨(some 44), .slice (.slice 1) (.tmp 42) none (some (.tmp 43)), none⟩,
      ⟨(some 45), .copy 1 (.tmp 41) (.tmp 44), none⟩,
      ⟨(some 46), .bin .add .prim (.tmp 38) (.tmp 45), none⟩,
      ⟨(some 8), .take 46, none⟩]))
def c_slices_Repeat_Lint_int__l2 : ACode := .loop c_slices_Repeat_Lint_int__l2b
def c_slices_Repeat_Lint_int__j3 : ACode :=
  .seq (.region false [⟨(some 47), .take 7, none⟩,
     ⟨(some 4), .take 47, none⟩])
  (.ret)
def c_slices_Repeat_Lint_int__j1 : ACode :=
  .seq (.region false [⟨(some 28), .mv (.tmp 6), none⟩,
     ⟨(some 29), .conv (.int .i64) (.tmp 28), none⟩,
     ⟨(some 30), .mksl 3 [(.int .i64 0)] (.tmp 29), none⟩,
     ⟨(some 7), .take 30, none⟩])
  (.seq (.region false [⟨(some 31), .mv (.tmp 7), none⟩,
      ⟨(some 32), .mv (.tmp 0), none⟩,
      ⟨(some 33), .copy 1 (.tmp 31) (.tmp 32), none⟩,
      ⟨(some 8), .take 33, none⟩])
   (.seq (.block 0 (c_slices_Repeat_Lint_int__l2))
    c_slices_Repeat_Lint_int__j3))
def c_slices_Repeat_Lint_int__j0 : ACode :=
  .seq (.region false [⟨(some 13), .mv (.tmp 0), none⟩,
     ⟨(some 14), .len .slice (.tmp 13), none⟩,
     ⟨(some 15), .conv (.int .u64) (.tmp 14), none⟩,
     ⟨(some 16), .mv (.tmp 1), none⟩,
     ⟨(some 17), .conv (.int .u64) (.tmp 16), none⟩,
     ⟨(some 18), .call (.const (.fn 44 [] [])) [(.inr (.tmp 15)), (.inr (.tmp 17))], none⟩,
     ⟨(some 12), .mv (.tmp 18), none⟩,
     ⟨(some 19), .extract (.tmp 12) 0, none⟩,
     ⟨(some 20), .extract (.tmp 12) 1, none⟩,
     ⟨(some 5), .take 19, none⟩,
     ⟨(some 6), .take 20, none⟩])
  (.seq (.seq (.region false [⟨(some 21), .mv (.tmp 5), none⟩,
       ⟨(some 22), .bin .gtr .prim (.tmp 21) (.const (.int .u64 0)), none⟩,
       ⟨(some 23), .mv (.tmp 22), none⟩,
       ⟨(some 24), .mv (.tmp 6), (some (23, false))⟩,
       ⟨(some 25), .bin .gtr .prim (.tmp 24) (.const (.int .u64 9223372036854775807)), (some (23, false))⟩,
       ⟨(some 26), .pick (.tmp 23) (.const (.bool true)) (.tmp 25), none⟩])
    (.cond (.tmp 26) (.region false [⟨(some 27), .bad, none⟩,
        ⟨none, .bad, none⟩])
     (.skip)))
   c_slices_Repeat_Lint_int__j1)
/-- slices.Repeat[[]int,int] -/
def c_slices_Repeat_Lint_int_ : ACode :=
  .seq (.region false [⟨(some 4), .mv (.const (.own 1 [])), none⟩])
  (.seq (.seq (.region false [⟨(some 9), .mv (.tmp 1), none⟩,
       ⟨(some 10), .bin .lss .prim (.tmp 9) (.const (.int .i64 0)), none⟩])
    (.cond (.tmp 10) (.region false [⟨(some 11), .bad, none⟩,
        ⟨none, .bad, none⟩])
     (.skip)))
   c_slices_Repeat_Lint_int__j0)
def a_slices_Repeat_Lint_int_ : AFn := ⟨48, [.tmp 4], c_slices_Repeat_Lint_int_, true⟩
theorem t_slices_Repeat_Lint_int_ : cFn Tryz.prog takesK Tryz.f28 = some a_slices_Repeat_Lint_int_ := by kernel_rfl
theorem n_slices_Repeat_Lint_int_ : (Tryz.f28.name == "runtime.NumGoroutine") = false := by kernel_rfl
/-- simulator/partition.shorter -/
def c_partition_shorter : ACode :=
  .seq (.region false [⟨(some 4), .mv (.const (.int .i64 0)), none⟩])
  (.seq (.seq (.region false [⟨(some 5), .mv (.tmp 0), none⟩,
       ⟨(some 6), .bin .eql .prim (.tmp 5) (.const (.int .i64 (-1))), none⟩,
       ⟨(some 7), .mv (.tmp 6), none⟩,
       ⟨(some 8), .mv (.tmp 1), (some (7, false))⟩,
       ⟨(some 9), .bin .eql .prim (.tmp 8) (.const (.int .i64 (-1))), (some (7, false))⟩,
       ⟨(some 10), .pick (.tmp 7) (.const (.bool true)) (.tmp 9), none⟩])
    (.cond (.tmp 10) (.seq (.region false [⟨(some 11), .mv (.tmp 0), none⟩,
         ⟨(some 12), .mv (.tmp 1), none⟩,
         ⟨(some 13), .max [(.tmp 11), (.tmp 12)], none⟩,
         ⟨(some 4), .take 13, none⟩])
      (.ret))
     (.skip)))
   (.seq (.region false [⟨(some 14), .mv (.tmp 0), none⟩,
       ⟨(some 15), .mv (.tmp 1), none⟩,
       ⟨(some 16), .min [(.tmp 14), (.tmp 15)], none⟩,
       ⟨(some 4), .take 16, none⟩])
    (.ret)))
def a_partition_shorter : AFn := ⟨17, [.tmp 4], c_partition_shorter, false⟩
theorem t_partition_shorter : cFn Tryz.prog takesW Tryz.f29 = some a_partition_shorter := by kernel_rfl
theorem n_partition_shorter : (Tryz.f29.name == "runtime.NumGoroutine") = false := by kernel_rfl
/-- simulator/num.Add -/
def c_num_Add : ACode :=
  .seq (.region false [⟨(some 4), .mv (.const (.int .i64 0)), none⟩])
  (.seq (.region false [⟨(some 5), .mv (.tmp 0), none⟩,
      ⟨(some 6), .call (.const (.fn 45 [] [])) [(.inr (.tmp 5))], none⟩,
      ⟨(some 7), .mv (.tmp 1), none⟩,
      ⟨(some 8), .call (.const (.fn 45 [] [])) [(.inr (.tmp 7))], none⟩,
      ⟨(some 9), .bin .add .prim (.tmp 6) (.tmp 8), none⟩,
      ⟨(some 10), .call (.const (.fn 45 [] [])) [(.inr (.tmp 9))], none⟩,
      ⟨(some 4), .take 10, none⟩])
   (.ret))
def a_num_Add : AFn := ⟨11, [.tmp 4], c_num_Add, false⟩
theorem t_num_Add : cFn Tryz.prog takesW Tryz.f30 = some a_num_Add := by kernel_rfl
theorem n_num_Add : (Tryz.f30.name == "runtime.NumGoroutine") = false := by kernel_rfl
/-- slices.Contains[[]bool,bool] -/
def c_slices_Contains_Lbool_bool_ : ACode :=
  .seq (.region false [⟨(some 4), .mv (.const (.bool false)), none⟩])
  (.seq (.region false [⟨(some 5), .mv (.tmp 0), none⟩,
      ⟨(some 6), .mv (.tmp 1), none⟩,
      ⟨(some 7), .call (.const (.fn 38 [] [])) [(.inr (.tmp 5)), (.inr (.tmp 6))], none⟩,
      ⟨(some 8), .bin .geq .prim (.tmp 7) (.const (.int .i64 0)), none⟩,
      ⟨(some 4), .take 8, none⟩])
   (.ret))
def a_slices_Contains_Lbool_bool_ : AFn := ⟨9, [.tmp 4], c_slices_Contains_Lbool_bool_, false⟩
theorem t_slices_Contains_Lbool_bool_ : cFn Tryz.prog takesW Tryz.f26 = some a_slices_Contains_Lbool_bool_ := by kernel_rfl
theorem n_slices_Contains_Lbool_bool_ : (Tryz.f26.name == "runtime.NumGoroutine") = false := by kernel_rfl
def c_names_Check_l0b : ACode :=
  .seq (.region false [⟨(some 25), .bin .lss .prim (.tmp 24) (.tmp 23), none⟩])
  (.seq (.cond (.tmp 25) (.skip)
    (.exit 0))
   (.seq (.block 1 (.seq (.region false [⟨(some 26), .mv (.tmp 24), none⟩,
         ⟨(some 3), .take 26, none⟩])
      (.seq (.region false [⟨(some 27), .mv (.tmp 0), none⟩,
          ⟨(some 28), .mv (.tmp 3), none⟩,
          ⟨(some 29), .idx (.tmp 27) (.tmp 28), none⟩,
          ⟨(some 4), .take 29, none⟩])
       (.seq (.region false [⟨(some 30), .mv (.tmp 4), none⟩,
           ⟨(some 31), .call (.const (.fn 47 [] [])) [(.inr (.tmp 30))], none⟩,
           ⟨(some 32), .un .not (.tmp 31), none⟩,
           ⟨(some 33), .mv (.tmp 32), none⟩,
           ⟨(some 34), .mv (.tmp 4), (some (33, true))⟩,
           ⟨(some 35), .bin .lss .prim (.tmp 34) (.const (.int .u8 48)), (some (33, true))⟩,
           ⟨(some 36), .mv (.tmp 35), (some (33, true))⟩,
           ⟨(some 37), .mv (.tmp 4), (some (36, false))⟩,
           ⟨(some 38), .bin .gtr .prim (.tmp 37) (.const (.int .u8 57)), (some (36, false))⟩,
           ⟨(some 39), .pick (.tmp 36) (.const (.bool true)) (.tmp 38), (some (33, true))⟩,
           ⟨(some 40), .pick (.tmp 33) (.tmp 39) (.const (.bool false)), none⟩,
           ⟨(some 41), .mv (.tmp 40), none⟩,
           ⟨(some 42), .mv (.tmp 4), (some (41, true))⟩,
           ⟨(some 43), .bin .neq .prim (.tmp 42) (.const (.int .u8 95)), (some (41, true))⟩,
           ⟨(some 44), .pick (.tmp 41) (.tmp 43) (.const (.bool false)), none⟩])
        (.cond (.tmp 44) (.seq (.region false [⟨(some 2), .mv (.const (.int .i64 3)), none⟩])
          (.ret))
         (.skip))))))
    (.region false [⟨(some 45), .bin .add .prim (.tmp 24) (.const (.int .i64 1)), none⟩,
       ⟨(some 24), .mv (.tmp 45), none⟩])))
def c_names_Check_l0 : ACode := .loop c_names_Check_l0b
def c_names_Check_j1 : ACode :=
  .seq (.region false [⟨(some 2), .mv (.const (.int .i64 0)), none⟩])
  (.ret)
/-- simulator/names.Check -/
def c_names_Check : ACode :=
  .seq (.region false [⟨(some 2), .mv (.const (.int .i64 0)), none⟩])
  (.seq (.seq (.region false [⟨(some 5), .mv (.tmp 0), none⟩,
       ⟨(some 6), .bin .eql .prim (.tmp 5) (.const (.str [])), none⟩,
       ⟨(some 7), .mv (.tmp 6), none⟩,
       ⟨(some 8), .mv (.tmp 0), (some (7, false))⟩,
       ⟨(some 9), .len .str (.tmp 8), (some (7, false))⟩,
       ⟨(some 10), .bin .gtr .prim (.tmp 9) (.const (.int .i64 24)), (some (7, false))⟩,
       ⟨(some 11), .pick (.tmp 7) (.const (.bool true)) (.tmp 10), none⟩,
       ⟨(some 12), .mv (.tmp 11), none⟩,
       ⟨(some 13), .mv (.tmp 0), (some (12, false))⟩,
       ⟨(some 14), .idx (.tmp 13) (.const (.int .i64 0)), (some (12, false))⟩,
       ⟨(some 15), .call (.const (.fn 47 [] [])) [(.inr (.tmp 14))], (some (12, false))⟩,
       ⟨(some 16), .un .not (.tmp 15), (some (12, false))⟩,
       ⟨(some 17), .pick (.tmp 12) (.const (.bool true)) (.tmp 16), none⟩,
       ⟨(some 18), .mv (.tmp 17), none⟩,
       ⟨(some 19), .mv (.tmp 0), (some (18, false))⟩,
       ⟨(some 20), .call (.const (.fn 48 [] [])) [(.inr (.tmp 19))], (some (18, false))⟩,
       ⟨(some 21), .pick (.tmp 18) (.const (.bool true)) (.tmp 20), none⟩])
    (.cond (.tmp 21) (.seq (.region false [⟨(some 2), .mv (.const (.int .i64 3)), none⟩])
      (.ret))
     (.skip)))
   (.seq (.seq (.region false [⟨(some 22), .mv (.tmp 0), none⟩,
        ⟨(some 23), .len .str (.tmp 22), none⟩,
        ⟨(some 24), .mv (.const (.int .i64 0)), none⟩])
     (.block 0 (c_names_Check_l0)))
    c_names_Check_j1))
def a_names_Check : AFn := ⟨46, [.tmp 2], c_names_Check, false⟩
theorem t_names_Check : cFn Tryz.prog takesW Tryz.f33 = some a_names_Check := by kernel_rfl
theorem n_names_Check : (Tryz.f33.name == "runtime.NumGoroutine") = false := by kernel_rfl
/-- simulator/model.Check -/
def c_model_Check : ACode :=
  .seq (.region false [⟨(some 1), .box 73 4 (.tmp 0), none⟩,
     ⟨(some 2), .mv (.const (.int .i64 0)), none⟩])
  (.seq (.seq (.region false [⟨(some 7), .fa 0 (.tmp 1), none⟩,
       ⟨(some 8), .ldc (.tmp 7), none⟩,
       ⟨(some 9), .call (.const (.fn 33 [] [])) [(.inr (.tmp 8))], none⟩,
       ⟨(some 3), .take 9, none⟩])
    (.seq (.region false [⟨(some 10), .mv (.tmp 3), none⟩,
        ⟨(some 11), .bin .neq .prim (.tmp 10) (.const (.int .i64 0)), none⟩])
     (.cond (.tmp 11) (.seq (.region false [⟨(some 12), .take 3, none⟩,
          ⟨(some 2), .take 12, none⟩])
       (.ret))
      (.skip))))
   (.seq (.seq (.region false [⟨(some 13), .mkmap, none⟩,
        ⟨(some 14), .fa 1 (.tmp 1), none⟩,
        ⟨(some 15), .ldc (.tmp 14), none⟩,
        ⟨(some 16), .call (.const (.fn 49 [] [])) [(.inr (.tmp 13)), (.inr (.tmp 15))], none⟩,
        ⟨(some 4), .take 16, none⟩])
     (.seq (.region false [⟨(some 17), .mv (.tmp 4), none⟩,
         ⟨(some 18), .bin .neq .prim (.tmp 17) (.const (.int .i64 0)), none⟩])
      (.cond (.tmp 18) (.seq (.region false [⟨(some 19), .take 4, none⟩,
           ⟨(some 2), .take 19, none⟩])
        (.ret))
       (.skip))))
    (.seq (.seq (.region false [⟨(some 20), .fa 2 (.tmp 1), none⟩,
         ⟨(some 21), .ldc (.tmp 20), none⟩,
         ⟨(some 22), .len .slice (.tmp 21), none⟩,
         ⟨(some 23), .bin .eql .prim (.tmp 22) (.const (.int .i64 0)), none⟩])
      (.cond (.tmp 23) (.seq (.region false [⟨(some 2), .mv (.const (.int .i64 7)), none⟩])
        (.ret))
       (.skip)))
     (.seq (.region false [⟨(some 24), .mkmap, none⟩,
         ⟨(some 5), .mk 86 [.nilm], none⟩,
         ⟨none, .stt (.tmp 5) 24, none⟩])
      (.seq (.region false [⟨(some 25), .fa 2 (.tmp 1), none⟩,
          ⟨(some 26), .ldc (.tmp 25), none⟩,
          ⟨(some 27), .mkfn 51 [] [(.tmp 5)], none⟩,
          ⟨(some 28), .call (.const (.fn 50 [] [])) [(.inr (.tmp 26)), (.inr (.const (.int .i64 16))), (.inr (.tmp 27))], none⟩,
          ⟨(some 6), .take 28, none⟩])
       (.seq (.seq (.region false [⟨(some 29), .mv (.tmp 6), none⟩,
            ⟨(some 30), .bin .neq .prim (.tmp 29) (.const (.int .i64 0)), none⟩])
         (.cond (.tmp 30) (.seq (.region false [⟨(some 31), .take 6, none⟩,
              ⟨(some 2), .take 31, none⟩])
           (.ret))
          (.skip)))
        (.seq (.region false [⟨(some 32), .lda 4 (.tmp 1), none⟩,
            ⟨(some 33), .call (.const (.fn 54 [] [])) [(.inr (.tmp 32))], none⟩,
            ⟨(some 2), .take 33, none⟩])
         (.ret))))))))
def a_model_Check : AFn := ⟨34, [.tmp 2], c_model_Check, false⟩
theorem t_model_Check : cFn Tryz.prog takesW Tryz.f34 = some a_model_Check := by kernel_rfl
theorem n_model_Check : (Tryz.f34.name == "runtime.NumGoroutine") = false := by kernel_rfl
/-- simulator/code.agrees -/
def c_code_agrees : ACode :=
  .seq (.region false [⟨(some 1), .box 65 14 (.tmp 0), none⟩,
     ⟨(some 2), .mv (.const (.bool false)), none⟩])
  (.seq (.region false [⟨(some 3), .fa 13 (.tmp 1), none⟩,
      ⟨(some 4), .ldc (.tmp 3), none⟩,
      ⟨(some 5), .fa 0 (.tmp 1), none⟩,
      ⟨(some 6), .fa 10 (.tmp 5), none⟩,
      ⟨(some 7), .ldc (.tmp 6), none⟩,
      ⟨(some 8), .call (.const (.fn 55 [] [])) [(.inr (.tmp 4)), (.inr (.tmp 7)), (.inr (.const (.fn 56 [] [])))], none⟩,
      ⟨(some 2), .take 8, none⟩])
   (.ret))
def a_code_agrees : AFn := ⟨9, [.tmp 2], c_code_agrees, false⟩
theorem t_code_agrees : cFn Tryz.prog takesW Tryz.f35 = some a_code_agrees := by kernel_rfl
theorem n_code_agrees : (Tryz.f35.name == "runtime.NumGoroutine") = false := by kernel_rfl
def c_code_arcs_j1 : ACode :=
  .cond (.tmp 24) (.seq (.region false [⟨(some 2), .mv (.const (.int .i64 2)), none⟩])
   (.ret))
  (.seq (.region false [⟨(some 58), .mv (.tmp 3), none⟩,
      ⟨(some 59), .lda 2 (.tmp 6), none⟩,
      ⟨(some 60), .look (.pair .int) (.bool false) (.tmp 58) (.tmp 59) false, none⟩,
      ⟨(some 57), .take 60, none⟩])
   (.cond (.tmp 57) (.seq (.region false [⟨(some 2), .mv (.const (.int .i64 4)), none⟩])
     (.ret))
    (.skip)))
def c_code_arcs_j2 : ACode :=
  .region false [⟨(some 61), .mv (.tmp 3), none⟩,
    ⟨(some 62), .lda 2 (.tmp 6), none⟩,
    ⟨none, .mupd (.pair .int) (.tmp 61) (.tmp 62) (.const (.bool true)), none⟩]
def c_code_arcs_j3 : ACode :=
  .region false [⟨(some 63), .bin .add .prim (.tmp 15) (.const (.int .i64 1)), none⟩,
    ⟨(some 15), .mv (.tmp 63), none⟩]
def c_code_arcs_l0b : ACode :=
  .seq (.region false [⟨(some 16), .bin .lss .prim (.tmp 15) (.tmp 14), none⟩])
  (.seq (.cond (.tmp 16) (.skip)
    (.exit 0))
   (.seq (.block 1 (.seq (.region false [⟨(some 17), .ia (.slice 3) (.tmp 13) (.tmp 15), none⟩,
         ⟨(some 18), .lda 3 (.tmp 17), none⟩,
         ⟨(some 5), .mk 36 [(.int .i64 0), (.int .i64 0), (.int .i64 0)], none⟩,
         ⟨none, .st 3 (.tmp 5) (.tmp 18), none⟩])
      (.seq (.region false [⟨(some 19), .fa 0 (.tmp 5), none⟩,
          ⟨(some 20), .ldc (.tmp 19), none⟩,
          ⟨(some 21), .fa 1 (.tmp 5), none⟩,
          ⟨(some 22), .ldc (.tmp 21), none⟩,
          ⟨(some 23), .build [(.int .i64 0), (.int .i64 0)] [(0, 1, (.tmp 20)), (1, 1, (.tmp 22))], none⟩,
          ⟨(some 6), .mk 97 [(.int .i64 0), (.int .i64 0)], none⟩,
          ⟨none, .st 2 (.tmp 6) (.tmp 23), none⟩])
       (.seq (.block 2 (.seq (.seq (.region false [⟨(some 25), .fa 0 (.tmp 5), none⟩,
              ⟨(some 26), .ldc (.tmp 25), none⟩,
              ⟨(some 27), .fa 1 (.tmp 5), none⟩,
              ⟨(some 28), .ldc (.tmp 27), none⟩,
              ⟨(some 29), .min [(.tmp 26), (.tmp 28)], none⟩,
              ⟨(some 30), .bin .lss .prim (.tmp 29) (.const (.int .i64 0)), none⟩,
              ⟨(some 31), .mv (.tmp 30), none⟩,
              ⟨(some 32), .fa 0 (.tmp 5), (some (31, false))⟩,
              ⟨(some 33), .ldc (.tmp 32), (some (31, false))⟩,
              ⟨(some 34), .fa 1 (.tmp 5), (some (31, false))⟩,
              ⟨(some 35), .ldc (.tmp 34), (some (31, false))⟩,
              ⟨(some 36), .max [(.tmp 33), (.tmp 35)], (some (31, false))⟩,
              ⟨(some 37), .fa 1 (.tmp 1), (some (31, false))⟩,
              ⟨(some 38), .ldc (.tmp 37), (some (31, false))⟩,
              ⟨(some 39), .len .slice (.tmp 38), (some (31, false))⟩,
              ⟨(some 40), .bin .geq .prim (.tmp 36) (.tmp 39), (some (31, false))⟩,
              ⟨(some 41), .pick (.tmp 31) (.const (.bool true)) (.tmp 40), none⟩,
              ⟨(some 42), .mv (.tmp 41), none⟩,
              ⟨(some 43), .fa 0 (.tmp 5), (some (42, false))⟩,
              ⟨(some 44), .ldc (.tmp 43), (some (42, false))⟩,
              ⟨(some 45), .fa 1 (.tmp 5), (some (42, false))⟩,
              ⟨(some 46), .ldc (.tmp 45), (some (42, false))⟩,
              ⟨(some 47), .bin .eql .prim (.tmp 44) (.tmp 46), (some (42, false))⟩,
              ⟨(some 48), .pick (.tmp 42) (.const (.bool true)) (.tmp 47), none⟩,
              ⟨(some 24), .take 48, none⟩])
           (.cond (.tmp 24) (.skip)
            (.region false [⟨(some 49), .fa 2 (.tmp 5), none⟩,
               ⟨(some 50), .ldc (.tmp 49), none⟩,
               ⟨(some 51), .bin .lss .prim (.tmp 50) (.const (.int .i64 1)), none⟩,
               ⟨(some 52), .mv (.tmp 51), none⟩,
               ⟨(some 53), .fa 2 (.tmp 5), (some (52, false))⟩,
               ⟨(some 54), .ldc (.tmp 53), (some (52, false))⟩,
               ⟨(some 55), .bin .gtr .prim (.tmp 54) (.const (.int .i64 1000000000)), (some (52, false))⟩,
               ⟨(some 56), .pick (.tmp 52) (.const (.bool true)) (.tmp 55), none⟩,
               ⟨(some 24), .take 56, none⟩])))
          c_code_arcs_j1))
        c_code_arcs_j2))))
    c_code_arcs_j3))
def c_code_arcs_l0 : ACode := .loop c_code_arcs_l0b
def c_code_arcs_j4 : ACode :=
  .seq (.region false [⟨(some 2), .mv (.const (.int .i64 0)), none⟩])
  (.ret)
/-- simulator/code.arcs -/
def c_code_arcs : ACode :=
  .seq (.region false [⟨(some 1), .box 25 3 (.tmp 0), none⟩,
     ⟨(some 2), .mv (.const (.int .i64 0)), none⟩])
  (.seq (.seq (.region false [⟨(some 7), .fa 2 (.tmp 1), none⟩,
       ⟨(some 8), .ldc (.tmp 7), none⟩,
       ⟨(some 9), .len .slice (.tmp 8), none⟩,
       ⟨(some 10), .bin .gtr .prim (.tmp 9) (.const (.int .i64 32)), none⟩])
    (.cond (.tmp 10) (.seq (.region false [⟨(some 2), .mv (.const (.int .i64 6)), none⟩])
      (.ret))
     (.skip)))
   (.seq (.region false [⟨(some 11), .mkmap, none⟩,
       ⟨(some 3), .take 11, none⟩])
    (.seq (.seq (.region false [⟨(some 12), .fa 2 (.tmp 1), none⟩,
         ⟨(some 13), .ldc (.tmp 12), none⟩,
         ⟨(some 14), .len .slice (.tmp 13), none⟩,
         ⟨(some 15), .mv (.const (.int .i64 0)), none⟩])
      (.block 0 (c_code_arcs_l0)))
     c_code_arcs_j4)))
def a_code_arcs : AFn := ⟨64, [.tmp 2], c_code_arcs, false⟩
theorem t_code_arcs : cFn Tryz.prog takesW Tryz.f36 = some a_code_arcs := by kernel_rfl
theorem n_code_arcs : (Tryz.f36.name == "runtime.NumGoroutine") = false := by kernel_rfl
def c_code_Routine_l0b : ACode :=
  .seq (.region false [⟨(some 67), .bin .lss .prim (.tmp 66) (.tmp 65), none⟩])
  (.seq (.cond (.tmp 67) (.skip)
    (.exit 1))
   (.seq (.block 2 (.seq (.region false [⟨(some 68), .ia (.slice 20) (.tmp 64) (.tmp 66), none⟩,
         ⟨(some 69), .lda 20 (.tmp 68), none⟩,
         ⟨(some 10), .mk 109 [(.int .i64 0), (.int .i64 0), (.int .i64 0), (.int .i64 0), (.int .i64 0), (.str []), (.int .i64 0), (.own 4 []), (.int .i64 0), (.str []), (.int .i64 0), (.own 4 []), (.own 4 []), (.int .i64 0), (.int .i64 0), (.int .i64 0), (.int .i64 0), (.own 1 []), (.own 1 []), (.bool false)], none⟩,
         ⟨none, .st 20 (.tmp 10) (.tmp 69), none⟩])
      (.seq (.region false [⟨(some 70), .lda 8 (.tmp 8), none⟩,
          ⟨(some 71), .lda 20 (.tmp 10), none⟩,
          ⟨(some 72), .call (.const (.fn 57 [] [])) [(.inr (.tmp 70)), (.inr (.tmp 71))], none⟩,
          ⟨(some 11), .take 72, none⟩])
       (.seq (.region false [⟨(some 73), .mv (.tmp 11), none⟩,
           ⟨(some 74), .bin .neq .prim (.tmp 73) (.const (.int .i64 0)), none⟩])
        (.cond (.tmp 74) (.seq (.region false [⟨(some 75), .take 11, none⟩,
             ⟨(some 6), .take 75, none⟩])
          (.ret))
         (.skip))))))
    (.region false [⟨(some 76), .bin .add .prim (.tmp 66) (.const (.int .i64 1)), none⟩,
       ⟨(some 66), .mv (.tmp 76), none⟩])))
def c_code_Routine_l0 : ACode := .loop c_code_Routine_l0b
def c_code_Routine_j1 : ACode :=
  .seq (.seq (.region false [⟨(some 77), .fa 3 (.tmp 5), none⟩,
      ⟨(some 78), .ldc (.tmp 77), none⟩,
      ⟨(some 79), .fa 3 (.tmp 5), none⟩,
      ⟨(some 80), .ldc (.tmp 79), none⟩,
      ⟨(some 81), .len .slice (.tmp 80), none⟩,
      ⟨(some 82), .bin .sub .prim (.tmp 81) (.const (.int .i64 1)), none⟩,
      ⟨(some 83), .ia (.slice 20) (.tmp 78) (.tmp 82), none⟩,
      ⟨(some 84), .fa 0 (.tmp 83), none⟩,
      ⟨(some 85), .ldc (.tmp 84), none⟩,
      ⟨(some 12), .take 85, none⟩])
   (.seq (.region false [⟨(some 86), .mv (.tmp 12), none⟩,
       ⟨(some 87), .bin .neq .prim (.tmp 86) (.const (.int .i64 19)), none⟩,
       ⟨(some 88), .mv (.tmp 87), none⟩,
       ⟨(some 89), .mv (.tmp 12), (some (88, true))⟩,
       ⟨(some 90), .bin .neq .prim (.tmp 89) (.const (.int .i64 4)), (some (88, true))⟩,
       ⟨(some 91), .pick (.tmp 88) (.tmp 90) (.const (.bool false)), none⟩])
    (.cond (.tmp 91) (.seq (.region false [⟨(some 6), .mv (.const (.int .i64 8)), none⟩])
      (.ret))
     (.skip))))
  (.seq (.region false [⟨(some 6), .mv (.const (.int .i64 0)), none⟩])
   (.ret))
/-- simulator/code.Routine -/
def c_code_Routine : ACode :=
  .seq (.region false [⟨(some 3), .box 25 3 (.tmp 0), none⟩,
     ⟨(some 5), .box 77 4 (.tmp 2), none⟩,
     ⟨(some 6), .mv (.const (.int .i64 0)), none⟩])
  (.seq (.seq (.region false [⟨(some 13), .mv (.tmp 1), none⟩,
       ⟨(some 14), .bin .lss .prim (.tmp 13) (.const (.int .i64 0)), none⟩,
       ⟨(some 15), .mv (.tmp 14), none⟩,
       ⟨(some 16), .mv (.tmp 1), (some (15, false))⟩,
       ⟨(some 17), .fa 1 (.tmp 3), (some (15, false))⟩,
       ⟨(some 18), .ldc (.tmp 17), (some (15, false))⟩,
       ⟨(some 19), .len .slice (.tmp 18), (some (15, false))⟩,
       ⟨(some 20), .bin .geq .prim (.tmp 16) (.tmp 19), (some (15, false))⟩,
       ⟨(some 21), .pick (.tmp 15) (.const (.bool true)) (.tmp 20), none⟩])
    (.cond (.tmp 21) (.seq (.region false [⟨(some 6), .mv (.const (.int .i64 2)), none⟩])
      (.ret))
     (.skip)))
   (.seq (.seq (.region false [⟨(some 22), .fa 0 (.tmp 5), none⟩,
        ⟨(some 23), .ldc (.tmp 22), none⟩,
        ⟨(some 24), .call (.const (.fn 33 [] [])) [(.inr (.tmp 23))], none⟩,
        ⟨(some 7), .take 24, none⟩])
     (.seq (.region false [⟨(some 25), .mv (.tmp 7), none⟩,
         ⟨(some 26), .bin .neq .prim (.tmp 25) (.const (.int .i64 0)), none⟩])
      (.cond (.tmp 26) (.seq (.region false [⟨(some 27), .take 7, none⟩,
           ⟨(some 6), .take 27, none⟩])
        (.ret))
       (.skip))))
    (.seq (.block 0 (.seq (.region false [⟨(some 29), .fa 1 (.tmp 5), none⟩,
          ⟨(some 30), .ldc (.tmp 29), none⟩,
          ⟨(some 31), .bin .lss .prim (.tmp 30) (.const (.int .i64 0)), none⟩,
          ⟨(some 32), .mv (.tmp 31), none⟩,
          ⟨(some 33), .fa 1 (.tmp 5), (some (32, false))⟩,
          ⟨(some 34), .ldc (.tmp 33), (some (32, false))⟩,
          ⟨(some 35), .fa 2 (.tmp 5), (some (32, false))⟩,
          ⟨(some 36), .ldc (.tmp 35), (some (32, false))⟩,
          ⟨(some 37), .bin .gtr .prim (.tmp 34) (.tmp 36), (some (32, false))⟩,
          ⟨(some 38), .pick (.tmp 32) (.const (.bool true)) (.tmp 37), none⟩,
          ⟨(some 39), .mv (.tmp 38), none⟩,
          ⟨(some 40), .fa 1 (.tmp 5), (some (39, false))⟩,
          ⟨(some 41), .ldc (.tmp 40), (some (39, false))⟩,
          ⟨(some 42), .bin .gtr .prim (.tmp 41) (.const (.int .i64 6)), (some (39, false))⟩,
          ⟨(some 43), .pick (.tmp 39) (.const (.bool true)) (.tmp 42), none⟩,
          ⟨(some 44), .mv (.tmp 43), none⟩,
          ⟨(some 45), .fa 2 (.tmp 5), (some (44, false))⟩,
          ⟨(some 46), .ldc (.tmp 45), (some (44, false))⟩,
          ⟨(some 47), .bin .gtr .prim (.tmp 46) (.const (.int .i64 16)), (some (44, false))⟩,
          ⟨(some 48), .pick (.tmp 44) (.const (.bool true)) (.tmp 47), none⟩,
          ⟨(some 28), .take 48, none⟩])
       (.cond (.tmp 28) (.seq (.region false [⟨(some 6), .mv (.const (.int .i64 2)), none⟩])
         (.ret))
        (.seq (.region false [⟨(some 50), .fa 3 (.tmp 5), none⟩,
            ⟨(some 51), .ldc (.tmp 50), none⟩,
            ⟨(some 52), .len .slice (.tmp 51), none⟩,
            ⟨(some 53), .bin .eql .prim (.tmp 52) (.const (.int .i64 0)), none⟩,
            ⟨(some 49), .take 53, none⟩])
         (.cond (.tmp 49) (.seq (.region false [⟨(some 6), .mv (.const (.int .i64 7)), none⟩])
           (.ret))
          (.seq (.region false [⟨(some 55), .fa 3 (.tmp 5), none⟩,
              ⟨(some 56), .ldc (.tmp 55), none⟩,
              ⟨(some 57), .len .slice (.tmp 56), none⟩,
              ⟨(some 58), .bin .gtr .prim (.tmp 57) (.const (.int .i64 1000)), none⟩,
              ⟨(some 54), .take 58, none⟩])
           (.cond (.tmp 54) (.seq (.region false [⟨(some 6), .mv (.const (.int .i64 6)), none⟩])
             (.ret))
            (.skip))))))))
     (.seq (.region false [⟨(some 59), .lda 3 (.tmp 3), none⟩,
         ⟨(some 60), .mv (.tmp 1), none⟩,
         ⟨(some 61), .lda 4 (.tmp 5), none⟩,
         ⟨(some 62), .build [(.str []), (.own 14 []), (.own 3 []), (.int .i64 0), (.str []), (.int .i64 0), (.int .i64 0), (.own 20 [])] [(0, 3, (.tmp 59)), (3, 1, (.tmp 60)), (4, 4, (.tmp 61))], none⟩,
         ⟨(some 8), .mk 99 [(.str []), (.own 14 []), (.own 3 []), (.int .i64 0), (.str []), (.int .i64 0), (.int .i64 0), (.own 20 [])], none⟩,
         ⟨none, .st 8 (.tmp 8) (.tmp 62), none⟩])
      (.seq (.seq (.region false [⟨(some 63), .fa 3 (.tmp 5), none⟩,
           ⟨(some 64), .ldc (.tmp 63), none⟩,
           ⟨(some 65), .len .slice (.tmp 64), none⟩,
           ⟨(some 66), .mv (.const (.int .i64 0)), none⟩])
        (.block 1 (c_code_Routine_l0)))
       c_code_Routine_j1)))))
def a_code_Routine : AFn := ⟨92, [.tmp 6], c_code_Routine, false⟩
theorem t_code_Routine : cFn Tryz.prog takesW Tryz.f37 = some a_code_Routine := by kernel_rfl
theorem n_code_Routine : (Tryz.f37.name == "runtime.NumGoroutine") = false := by kernel_rfl
/-- math/bits.Mul -/
def c_math_bits_Mul : ACode :=
  .seq (.region false [⟨(some 4), .mv (.const (.int .u64 0)), none⟩,
     ⟨(some 5), .mv (.const (.int .u64 0)), none⟩])
  (.seq (.cond (.const (.bool false)) (.seq (.region false [⟨(some 11), .mv (.tmp 0), none⟩,
        ⟨(some 12), .conv (.int .u32) (.tmp 11), none⟩,
        ⟨(some 13), .mv (.tmp 1), none⟩,
        ⟨(some 14), .conv (.int .u32) (.tmp 13), none⟩,
        ⟨(some 15), .call (.const (.fn 67 [] [])) [(.inr (.tmp 12)), (.inr (.tmp 14))], none⟩,
        ⟨(some 10), .mv (.tmp 15), none⟩,
        ⟨(some 16), .extract (.tmp 10) 0, none⟩,
        ⟨(some 17), .extract (.tmp 10) 1, none⟩,
        ⟨(some 6), .take 16, none⟩,
        ⟨(some 7), .take 17, none⟩])
     (.seq (.region false [⟨(some 18), .mv (.tmp 6), none⟩,
         ⟨(some 19), .conv (.int .u64) (.tmp 18), none⟩,
         ⟨(some 20), .mv (.tmp 7), none⟩,
         ⟨(some 21), .conv (.int .u64) (.tmp 20), none⟩,
         ⟨(some 4), .take 19, none⟩,
         ⟨(some 5), .take 21, none⟩])
      (.ret)))
    (.skip))
   (.seq (.region false [⟨(some 23), .mv (.tmp 0), none⟩,
       ⟨(some 24), .mv (.tmp 1), none⟩,
       ⟨(some 25), .call (.const (.fn 68 [] [])) [(.inr (.tmp 23)), (.inr (.tmp 24))], none⟩,
       ⟨(some 22), .mv (.tmp 25), none⟩,
       ⟨(some 26), .extract (.tmp 22) 0, none⟩,
       ⟨(some 27), .extract (.tmp 22) 1, none⟩,
       ⟨(some 8), .take 26, none⟩,
       ⟨(some 9), .take 27, none⟩])
    (.seq (.region false [⟨(some 28), .take 8, none⟩,
        ⟨(some 29), .take 9, none⟩,
        ⟨(some 4), .take 28, none⟩,
        ⟨(some 5), .take 29, none⟩])
     (.ret))))
def a_math_bits_Mul : AFn := ⟨30, [.tmp 4, .tmp 5], c_math_bits_Mul, false⟩
theorem t_math_bits_Mul : cFn Tryz.prog takesW Tryz.f44 = some a_math_bits_Mul := by kernel_rfl
theorem n_math_bits_Mul : (Tryz.f44.name == "runtime.NumGoroutine") = false := by kernel_rfl
/-- simulator/num.Clip -/
def c_num_Clip : ACode :=
  .seq (.region false [⟨(some 2), .mv (.const (.int .i64 0)), none⟩])
  (.seq (.region false [⟨(some 3), .mv (.tmp 0), none⟩,
      ⟨(some 4), .min [(.tmp 3), (.const (.int .i64 1000000000000))], none⟩,
      ⟨(some 5), .max [(.const (.int .i64 (-1000000000000))), (.tmp 4)], none⟩,
      ⟨(some 2), .take 5, none⟩])
   (.ret))
def a_num_Clip : AFn := ⟨6, [.tmp 2], c_num_Clip, false⟩
theorem t_num_Clip : cFn Tryz.prog takesW Tryz.f45 = some a_num_Clip := by kernel_rfl
theorem n_num_Clip : (Tryz.f45.name == "runtime.NumGoroutine") = false := by kernel_rfl
def c_slices_Index_Lbool_bool__l0b : ACode :=
  .seq (.region false [⟨(some 9), .bin .lss .prim (.tmp 8) (.tmp 7), none⟩])
  (.seq (.cond (.tmp 9) (.skip)
    (.exit 0))
   (.seq (.block 1 (.seq (.region false [⟨(some 10), .mv (.tmp 8), none⟩,
         ⟨(some 5), .take 10, none⟩])
      (.seq (.region false [⟨(some 11), .mv (.tmp 1), none⟩,
          ⟨(some 12), .mv (.tmp 0), none⟩,
          ⟨(some 13), .mv (.tmp 5), none⟩,
          ⟨(some 14), .ia (.slice 1) (.tmp 12) (.tmp 13), none⟩,
          ⟨(some 15), .ldc (.tmp 14), none⟩,
          ⟨(some 16), .bin .eql .bool (.tmp 11) (.tmp 15), none⟩])
       (.cond (.tmp 16) (.seq (.region false [⟨(some 17), .take 5, none⟩,
            ⟨(some 4), .take 17, none⟩])
         (.ret))
        (.skip)))))
    (.region false [⟨(some 18), .bin .add .prim (.tmp 8) (.const (.int .i64 1)), none⟩,
       ⟨(some 8), .mv (.tmp 18), none⟩])))
def c_slices_Index_Lbool_bool__l0 : ACode := .loop c_slices_Index_Lbool_bool__l0b
def c_slices_Index_Lbool_bool__j1 : ACode :=
  .seq (.region false [⟨(some 4), .mv (.const (.int .i64 (-1))), none⟩])
  (.ret)
/-- slices.Index[[]bool,bool] -/
def c_slices_Index_Lbool_bool_ : ACode :=
  .seq (.region false [⟨(some 4), .mv (.const (.int .i64 0)), none⟩])
  (.seq (.seq (.region false [⟨(some 6), .mv (.tmp 0), none⟩,
       ⟨(some 7), .len .slice (.tmp 6), none⟩,
       ⟨(some 8), .mv (.const (.int .i64 0)), none⟩])
    (.block 0 (c_slices_Index_Lbool_bool__l0)))
   c_slices_Index_Lbool_bool__j1)
def a_slices_Index_Lbool_bool_ : AFn := ⟨19, [.tmp 4], c_slices_Index_Lbool_bool_, false⟩
theorem t_slices_Index_Lbool_bool_ : cFn Tryz.prog takesW Tryz.f38 = some a_slices_Index_Lbool_bool_ := by kernel_rfl
theorem n_slices_Index_Lbool_bool_ : (Tryz.f38.name == "runtime.NumGoroutine") = false := by kernel_rfl
/-- simulator/names.letter -/
def c_names_letter : ACode :=
  .seq (.region false [⟨(some 2), .mv (.const (.bool false)), none⟩])
  (.seq (.region false [⟨(some 3), .mv (.tmp 0), none⟩,
      ⟨(some 4), .bin .geq .prim (.tmp 3) (.const (.int .u8 97)), none⟩,
      ⟨(some 5), .mv (.tmp 4), none⟩,
      ⟨(some 6), .mv (.tmp 0), (some (5, true))⟩,
      ⟨(some 7), .bin .leq .prim (.tmp 6) (.const (.int .u8 122)), (some (5, true))⟩,
      ⟨(some 8), .pick (.tmp 5) (.tmp 7) (.const (.bool false)), none⟩,
      ⟨(some 2), .take 8, none⟩])
   (.ret))
def a_names_letter : AFn := ⟨9, [.tmp 2], c_names_letter, false⟩
theorem t_names_letter : cFn Tryz.prog takesW Tryz.f47 = some a_names_letter := by kernel_rfl
theorem n_names_letter : (Tryz.f47.name == "runtime.NumGoroutine") = false := by kernel_rfl
/-- simulator/names.Keyword -/
def c_names_Keyword : ACode :=
  .seq (.region false [⟨(some 2), .mv (.const (.bool false)), none⟩])
  (.seq (.seq (.region false [⟨(some 3), .mv (.tmp 0), none⟩])
    (.block 0 (.seq (.seq (.region false [⟨(some 5), .bin .eql .prim (.tmp 3) (.const (.str [97, 100, 100])), none⟩,
          ⟨(some 4), .take 5, none⟩])
       (.cond (.tmp 4) (.skip)
        (.seq (.region false [⟨(some 6), .bin .eql .prim (.tmp 3) (.const (.str [97, 102, 116, 101, 114])), none⟩,
            ⟨(some 4), .take 6, none⟩])
         (.cond (.tmp 4) (.skip)
          (.seq (.region false [⟨(some 7), .bin .eql .prim (.tmp 3) (.const (.str [97, 110, 100])), none⟩,
              ⟨(some 4), .take 7, none⟩])
           (.cond (.tmp 4) (.skip)
            (.seq (.region false [⟨(some 8), .bin .eql .prim (.tmp 3) (.const (.str [97, 116])), none⟩,
                ⟨(some 4), .take 8, none⟩])
             (.cond (.tmp 4) (.skip)
              (.seq (.region false [⟨(some 9), .bin .eql .prim (.tmp 3) (.const (.str [98, 101, 108, 116])), none⟩,
                  ⟨(some 4), .take 9, none⟩])
               (.cond (.tmp 4) (.skip)
                (.seq (.region false [⟨(some 10), .bin .eql .prim (.tmp 3) (.const (.str [98, 111, 111, 108])), none⟩,
                    ⟨(some 4), .take 10, none⟩])
                 (.cond (.tmp 4) (.skip)
                  (.seq (.region false [⟨(some 11), .bin .eql .prim (.tmp 3) (.const (.str [99, 111, 110, 115, 101, 114, 118, 101])), none⟩,
                      ⟨(some 4), .take 11, none⟩])
                   (.cond (.tmp 4) (.skip)
                    (.seq (.region false [⟨(some 12), .bin .eql .prim (.tmp 3) (.const (.str [99, 111, 110, 115, 116])), none⟩,
                        ⟨(some 4), .take 12, none⟩])
                     (.cond (.tmp 4) (.skip)
                      (.seq (.region false [⟨(some 13), .bin .eql .prim (.tmp 3) (.const (.str [99, 111, 117, 110, 116])), none⟩,
                          ⟨(some 4), .take 13, none⟩])
                       (.cond (.tmp 4) (.skip)
                        (.seq (.region false [⟨(some 14), .bin .eql .prim (.tmp 3) (.const (.str [99, 121, 99, 108, 101])), none⟩,
                            ⟨(some 4), .take 14, none⟩])
                         (.cond (.tmp 4) (.skip)
                          (.seq (.region false [⟨(some 15), .bin .eql .prim (.tmp 3) (.const (.str [100, 111, 119, 110])), none⟩,
                              ⟨(some 4), .take 15, none⟩])
                           (.cond (.tmp 4) (.skip)
                            (.seq (.region false [⟨(some 16), .bin .eql .prim (.tmp 3) (.const (.str [100, 114, 97, 119])), none⟩,
                                ⟨(some 4), .take 16, none⟩])
                             (.cond (.tmp 4) (.skip)
                              (.seq (.region false [⟨(some 17), .bin .eql .prim (.tmp 3) (.const (.str [100, 117, 114])), none⟩,
                                  ⟨(some 4), .take 17, none⟩])
                               (.cond (.tmp 4) (.skip)
                                (.seq (.region false [⟨(some 18), .bin .eql .prim (.tmp 3) (.const (.str [101, 108, 115, 101])), none⟩,
                                    ⟨(some 4), .take 18, none⟩])
                                 (.cond (.tmp 4) (.skip)
                                  (.seq (.region false [⟨(some 19), .bin .eql .prim (.tmp 3) (.const (.str [101, 110, 100])), none⟩,
                                      ⟨(some 4), .take 19, none⟩])
                                   (.cond (.tmp 4) (.skip)
                                    (.seq (.region false [⟨(some 20), .bin .eql .prim (.tmp 3) (.const (.str [101, 118, 101, 114, 121])), none⟩,
                                        ⟨(some 4), .take 20, none⟩])
                                     (.cond (.tmp 4) (.skip)
                                      (.seq (.region false [⟨(some 21), .bin .eql .prim (.tmp 3) (.const (.str [102, 97, 108, 115, 101])), none⟩,
                                          ⟨(some 4), .take 21, none⟩])
                                       (.cond (.tmp 4) (.skip)
                                        (.seq (.region false [⟨(some 22), .bin .eql .prim (.tmp 3) (.const (.str [102, 97, 117, 108, 116])), none⟩,
                                            ⟨(some 4), .take 22, none⟩])
                                         (.cond (.tmp 4) (.skip)
                                          (.seq (.region false [⟨(some 23), .bin .eql .prim (.tmp 3) (.const (.str [102, 105, 102, 111])), none⟩,
                                              ⟨(some 4), .take 23, none⟩])
                                           (.cond (.tmp 4) (.skip)
                                            (.seq (.region false [⟨(some 24), .bin .eql .prim (.tmp 3) (.const (.str [102, 114, 101, 101])), none⟩,
                                                ⟨(some 4), .take 24, none⟩])
                                             (.cond (.tmp 4) (.skip)
                                              (.seq (.region false [⟨(some 25), .bin .eql .prim (.tmp 3) (.const (.str [102, 114, 111, 109])), none⟩,
                                                  ⟨(some 4), .take 25, none⟩])
                                               (.cond (.tmp 4) (.skip)
                                                (.seq (.region false [⟨(some 26), .bin .eql .prim (.tmp 3) (.const (.str [103, 101, 111, 109])), none⟩,
                                                    ⟨(some 4), .take 26, none⟩])
                                                 (.cond (.tmp 4) (.skip)
                                                  (.seq (.region false [⟨(some 27), .bin .eql .prim (.tmp 3) (.const (.str [103, 101, 116])), none⟩,
                                                      ⟨(some 4), .take 27, none⟩])
                                                   (.cond (.tmp 4) (.skip)
                                                    (.seq (.region false [⟨(some 28), .bin .eql .prim (.tmp 3) (.const (.str [104, 111, 108, 100])), none⟩,
                                                        ⟨(some 4), .take 28, none⟩])
                                                     (.cond (.tmp 4) (.skip)
                                                      (.seq (.region false [⟨(some 29), .bin .eql .prim (.tmp 3) (.const (.str [105, 102])), none⟩,
                                                          ⟨(some 4), .take 29, none⟩])
                                                       (.cond (.tmp 4) (.skip)
                                                        (.seq (.region false [⟨(some 30), .bin .eql .prim (.tmp 3) (.const (.str [105, 110, 116])), none⟩,
                                                            ⟨(some 4), .take 30, none⟩])
                                                         (.cond (.tmp 4) (.skip)
                                                          (.seq (.region false [⟨(some 31), .bin .eql .prim (.tmp 3) (.const (.str [105, 110, 116, 111])), none⟩,
                                                              ⟨(some 4), .take 31, none⟩])
                                                           (.cond (.tmp 4) (.skip)
                                                            (.seq (.region false [⟨(some 32), .bin .eql .prim (.tmp 3) (.const (.str [108, 101, 97, 115, 116])), none⟩,
                                                                ⟨(some 4), .take 32, none⟩])
                                                             (.cond (.tmp 4) (.skip)
                                                              (.seq (.region false [⟨(some 33), .bin .eql .prim (.tmp 3) (.const (.str [108, 101, 118, 101, 108])), none⟩,
                                                                  ⟨(some 4), .take 33, none⟩])
                                                               (.cond (.tmp 4) (.skip)
                                                                (.seq (.region false [⟨(some 34), .bin .eql .prim (.tmp 3) (.const (.str [108, 105, 102, 111])), none⟩,
                                                                    ⟨(some 4), .take 34, none⟩])
                                                                 (.cond (.tmp 4) (.skip)
                                                                  (.seq (.region false [⟨(some 35), .bin .eql .prim (.tmp 3) (.const (.str [108, 105, 110, 107])), none⟩,
                                                                      ⟨(some 4), .take 35, none⟩])
                                                                   (.cond (.tmp 4) (.skip)
                                                                    (.seq (.region false [⟨(some 36), .bin .eql .prim (.tmp 3) (.const (.str [108, 111, 99, 97, 108])), none⟩,
                                                                        ⟨(some 4), .take 36, none⟩])
                                                                     (.cond (.tmp 4) (.skip)
                                                                      (.seq (.region false [⟨(some 37), .bin .eql .prim (.tmp 3) (.const (.str [109, 97, 120])), none⟩,
                                                                          ⟨(some 4), .take 37, none⟩])
                                                                       (.cond (.tmp 4) (.skip)
                                                                        (.seq (.region false [⟨(some 38), .bin .eql .prim (.tmp 3) (.const (.str [109, 105, 110])), none⟩,
                                                                            ⟨(some 4), .take 38, none⟩])
                                                                         (.cond (.tmp 4) (.skip)
                                                                          (.seq (.region false [⟨(some 39), .bin .eql .prim (.tmp 3) (.const (.str [109, 111, 100, 101, 108])), none⟩,
                                                                              ⟨(some 4), .take 39, none⟩])
                                                                           (.cond (.tmp 4) (.skip)
                                                                            (.seq (.region false [⟨(some 40), .bin .eql .prim (.tmp 3) (.const (.str [110, 111, 116])), none⟩,
                                                                                ⟨(some 4), .take 40, none⟩])
                                                                             (.cond (.tmp 4) (.skip)
                                                                              (.seq (.region false [⟨(some 41), .bin .eql .prim (.tmp 3) (.const (.str [110, 111, 119])), none⟩,
                                                                                  ⟨(some 4), .take 41, none⟩])
                                                                               (.cond (.tmp 4) (.skip)
                                                                                (.seq (.region false [⟨(some 42), .bin .eql .prim (.tmp 3) (.const (.str [111, 98, 115, 101, 114, 118, 101])), none⟩,
                                                                                    ⟨(some 4), .take 42, none⟩])
                                                                                 (.cond (.tmp 4) (.skip)
                                                                                  (.seq (.region false [⟨(some 43), .bin .eql .prim (.tmp 3) (.const (.str [111, 114])), none⟩,
                                                                                      ⟨(some 4), .take 43, none⟩])
                                                                                   (.cond (.tmp 4) (.skip)
                                                                                    (.seq (.region false [⟨(some 44), .bin .eql .prim (.tmp 3) (.const (.str [112, 97, 114, 97, 109])), none⟩,
                                                                                        ⟨(some 4), .take 44, none⟩])
                                                                                     (.cond (.tmp 4) (.skip)
                                                                                      (.seq (.region false [⟨(some 45), .bin .eql .prim (.tmp 3) (.const (.str [112, 114, 101, 101, 109, 112, 116])), none⟩,
                                                                                          ⟨(some 4), .take 45, none⟩])
                                                                                       (.cond (.tmp 4) (.skip)
                                                                                        (.seq (.region false [⟨(some 46), .bin .eql .prim (.tmp 3) (.const (.str [112, 114, 105, 111])), none⟩,
                                                                                            ⟨(some 4), .take 46, none⟩])
                                                                                         (.cond (.tmp 4) (.skip)
                                                                                          (.seq (.region false [⟨(some 47), .bin .eql .prim (.tmp 3) (.const (.str [112, 117, 116])), none⟩,
                                                                                              ⟨(some 4), .take 47, none⟩])
                                                                                           (.cond (.tmp 4) (.skip)
                                                                                            (.seq (.region false [⟨(some 48), .bin .eql .prim (.tmp 3) (.const (.str [113, 117, 101, 117, 101])), none⟩,
                                                                                                ⟨(some 4), .take 48, none⟩])
                                                                                             (.cond (.tmp 4) (.skip)
                                                                                              (.seq (.region false [⟨(some 49), .bin .eql .prim (.tmp 3) (.const (.str [114, 101, 108, 101, 97, 115, 101])), none⟩,
                                                                                                  ⟨(some 4), .take 49, none⟩])
                                                                                               (.cond (.tmp 4) (.skip)
                                                                                                (.seq (.region false [⟨(some 50), .bin .eql .prim (.tmp 3) (.const (.str [114, 101, 115, 111, 117, 114, 99, 101])), none⟩,
                                                                                                    ⟨(some 4), .take 50, none⟩])
                                                                                                 (.cond (.tmp 4) (.skip)
                                                                                                  (.seq (.region false [⟨(some 51), .bin .eql .prim (.tmp 3) (.const (.str [114, 105, 100, 101])), none⟩,
                                                                                                      ⟨(some 4), .take 51, none⟩])
                                                                                                   (.cond (.tmp 4) (.skip)
                                                                                                    (.seq (.region false [⟨(some 52), .bin .eql .prim (.tmp 3) (.const (.str [114, 111, 117, 116, 105, 110, 101])), none⟩,
                                                                                                        ⟨(some 4), .take 52, none⟩])
                                                                                                     (.cond (.tmp 4) (.skip)
                                                                                                      (.seq (.region false [⟨(some 53), .bin .eql .prim (.tmp 3) (.const (.str [115, 101, 105, 122, 101])), none⟩,
                                                                                                          ⟨(some 4), .take 53, none⟩])
                                                                                                       (.cond (.tmp 4) (.skip)
                                                                                                        (.seq (.region false [⟨(some 54), .bin .eql .prim (.tmp 3) (.const (.str [115, 101, 110, 100])), none⟩,
                                                                                                            ⟨(some 4), .take 54, none⟩])
                                                                                                         (.cond (.tmp 4) (.skip)
                                                                                                          (.seq (.region false [⟨(some 55), .bin .eql .prim (.tmp 3) (.const (.str [115, 101, 116])), none⟩,
                                                                                                              ⟨(some 4), .take 55, none⟩])
                                                                                                           (.cond (.tmp 4) (.skip)
                                                                                                            (.seq (.region false [⟨(some 56), .bin .eql .prim (.tmp 3) (.const (.str [115, 104, 105, 102, 116])), none⟩,
                                                                                                                ⟨(some 4), .take 56, none⟩])
                                                                                                             (.cond (.tmp 4) (.skip)
                                                                                                              (.seq (.region false [⟨(some 57), .bin .eql .prim (.tmp 3) (.const (.str [115, 105, 103, 110, 97, 108])), none⟩,
                                                                                                                  ⟨(some 4), .take 57, none⟩])
                                                                                                               (.cond (.tmp 4) (.skip)
                                                                                                                (.seq (.region false [⟨(some 58), .bin .eql .prim (.tmp 3) (.const (.str [115, 105, 116, 101])), none⟩,
                                                                                                                    ⟨(some 4), .take 58, none⟩])
                                                                                                                 (.cond (.tmp 4) (.skip)
                                                                                                                  (.seq (.region false [⟨(some 59), .bin .eql .prim (.tmp 3) (.const (.str [115, 105, 122, 101])), none⟩,
                                                                                                                      ⟨(some 4), .take 59, none⟩])
                                                                                                                   (.cond (.tmp 4) (.skip)
                                                                                                                    (.seq (.region false [⟨(some 60), .bin .eql .prim (.tmp 3) (.const (.str [115, 112, 97, 119, 110])), none⟩,
                                                                                                                        ⟨(some 4), .take 60, none⟩])
                                                                                                                     (.cond (.tmp 4) (.skip)
                                                                                                                      (.seq (.region false [⟨(some 61), .bin .eql .prim (.tmp 3) (.const (.str [115, 116, 97, 114, 116])), none⟩,
                                                                                                                          ⟨(some 4), .take 61, none⟩])
                                                                                                                       (.cond (.tmp 4) (.skip)
                                                                                                                        (.seq (.region false [⟨(some 62), .bin .eql .prim (.tmp 3) (.const (.str [115, 116, 111, 112])), none⟩,
                                                                                                                            ⟨(some 4), .take 62, none⟩])
                                                                                                                         (.cond (.tmp 4) (.skip)
                                                                                                                          (.seq (.region false [⟨(some 63), .bin .eql .prim (.tmp 3) (.const (.str [115, 116, 111, 114, 101])), none⟩,
                                                                                                                              ⟨(some 4), .take 63, none⟩])
                                                                                                                           (.cond (.tmp 4) (.skip)
                                                                                                                            (.seq (.region false [⟨(some 64), .bin .eql .prim (.tmp 3) (.const (.str [115, 116, 114, 101, 97, 109])), none⟩,
                                                                                                                                ⟨(some 4), .take 64, none⟩])
                                                                                                                             (.cond (.tmp 4) (.skip)
                                                                                                                              (.seq (.region false [⟨(some 65), .bin .eql .prim (.tmp 3) (.const (.str [115, 117, 109])), none⟩,
                                                                                                                                  ⟨(some 4), .take 65, none⟩])
                                                                                                                               (.cond (.tmp 4) (.skip)
                                                                                                                                (.seq (.region false [⟨(some 66), .bin .eql .prim (.tmp 3) (.const (.str [116, 97, 98, 108, 101])), none⟩,
                                                                                                                                    ⟨(some 4), .take 66, none⟩])
                                                                                                                                 (.cond (.tmp 4) (.skip)
                                                                                                                                  (.seq (.region false [⟨(some 67), .bin .eql .prim (.tmp 3) (.const (.str [116, 97, 108, 108, 121])), none⟩,
                                                                                                                                      ⟨(some 4), .take 67, none⟩])
                                                                                                                                   (.cond (.tmp 4) (.skip)
                                                                                                                                    (.seq (.region false [⟨(some 68), .bin .eql .prim (.tmp 3) (.const (.str [116, 105, 99, 107, 115])), none⟩,
                                                                                                                                        ⟨(some 4), .take 68, none⟩])
                                                                                                                                     (.cond (.tmp 4) (.skip)
                                                                                                                                      (.seq (.region false [⟨(some 69), .bin .eql .prim (.tmp 3) (.const (.str [116, 105, 109, 101])), none⟩,
                                                                                                                                          ⟨(some 4), .take 69, none⟩])
                                                                                                                                       (.cond (.tmp 4) (.skip)
                                                                                                                                        (.seq (.region false [⟨(some 70), .bin .eql .prim (.tmp 3) (.const (.str [116, 114, 117, 101])), none⟩,
                                                                                                                                            ⟨(some 4), .take 70, none⟩])
                                                                                                                                         (.cond (.tmp 4) (.skip)
                                                                                                                                          (.seq (.region false [⟨(some 71), .bin .eql .prim (.tmp 3) (.const (.str [117, 110, 105, 102, 111, 114, 109])), none⟩,
                                                                                                                                              ⟨(some 4), .take 71, none⟩])
                                                                                                                                           (.cond (.tmp 4) (.skip)
                                                                                                                                            (.seq (.region false [⟨(some 72), .bin .eql .prim (.tmp 3) (.const (.str [117, 110, 116, 105, 108])), none⟩,
                                                                                                                                                ⟨(some 4), .take 72, none⟩])
                                                                                                                                             (.cond (.tmp 4) (.skip)
                                                                                                                                              (.seq (.region false [⟨(some 73), .bin .eql .prim (.tmp 3) (.const (.str [117, 112])), none⟩,
                                                                                                                                                  ⟨(some 4), .take 73, none⟩])
                                                                                                                                               (.cond (.tmp 4) (.skip)
                                                                                                                                                (.seq (.region false [⟨(some 74), .bin .eql .prim (.tmp 3) (.const (.str [118, 97, 114])), none⟩,
                                                                                                                                                    ⟨(some 4), .take 74, none⟩])
                                                                                                                                                 (.cond (.tmp 4) (.skip)
                                                                                                                                                  (.seq (.region false [⟨(some 75), .bin .eql .prim (.tmp 3) (.const (.str [119, 97, 105, 116])), none⟩,
                                                                                                                                                      ⟨(some 4), .take 75, none⟩])
                                                                                                                                                   (.cond (.tmp 4) (.skip)
                                                                                                                                                    (.seq (.region false [⟨(some 76), .bin .eql .prim (.tmp 3) (.const (.str [119, 97, 105, 116, 105, 110, 103])), none⟩,
                                                                                                                                                        ⟨(some 4), .take 76, none⟩])
                                                                                                                                                     (.cond (.tmp 4) (.skip)
                                                                                                                                                      (.region false [⟨(some 77), .bin .eql .prim (.tmp 3) (.const (.str [119, 104, 105, 108, 101])), none⟩,
                                                                                                                                                         ⟨(some 4), .take 77, none⟩])))))))))))))))))))))))))))))))))))))))))))))))))))))))))))))))))))))))))))))))))))))))))))))))))))))))))))))))))))))))))))))))))))))))))))))))))
      (.cond (.tmp 4) (.seq (.region false [⟨(some 2), .mv (.const (.bool true)), none⟩])
        (.ret))
       (.skip)))))
   (.seq (.region false [⟨(some 2), .mv (.const (.bool false)), none⟩])
    (.ret)))
def a_names_Keyword : AFn := ⟨78, [.tmp 2], c_names_Keyword, false⟩
theorem t_names_Keyword : cFn Tryz.prog takesW Tryz.f48 = some a_names_Keyword := by kernel_rfl
theorem n_names_Keyword : (Tryz.f48.name == "runtime.NumGoroutine") = false := by kernel_rfl
/-- (simulator/model.scope).values -/
def c__model_scope__values : ACode :=
  .seq (.region false [⟨(some 4), .mv (.const (.int .i64 0)), none⟩])
  (.seq (.region false [⟨(some 5), .mv (.tmp 1), none⟩,
      ⟨(some 6), .mv (.tmp 0), none⟩,
      ⟨(some 7), .mkfn 70 [(.tmp 6)] [], none⟩,
      ⟨(some 8), .call (.const (.fn 69 [] [])) [(.inr (.tmp 5)), (.inr (.const (.int .i64 32))), (.inr (.tmp 7))], none⟩,
      ⟨(some 4), .take 8, none⟩])
   (.ret))
def a__model_scope__values : AFn := ⟨9, [.tmp 4], c__model_scope__values, false⟩
theorem t__model_scope__values : cFn Tryz.prog takesW Tryz.f49 = some a__model_scope__values := by kernel_rfl
theorem n__model_scope__values : (Tryz.f49.name == "runtime.NumGoroutine") = false := by kernel_rfl
/-- simulator/model.Check$1 -/
def c_model_Check_1 : ACode :=
  .seq (.region false [⟨(some 2), .box 62 13 (.tmp 0), none⟩,
     ⟨(some 3), .mv (.const (.int .i64 0)), none⟩])
  (.seq (.seq (.region false [⟨(some 5), .ldc (.tmp 1), none⟩,
       ⟨(some 6), .fa 0 (.tmp 2), none⟩,
       ⟨(some 7), .ldc (.tmp 6), none⟩,
       ⟨(some 8), .call (.const (.fn 52 [] [])) [(.inr (.tmp 5)), (.inr (.tmp 7))], none⟩,
       ⟨(some 4), .take 8, none⟩])
    (.seq (.region false [⟨(some 9), .mv (.tmp 4), none⟩,
        ⟨(some 10), .bin .neq .prim (.tmp 9) (.const (.int .i64 0)), none⟩])
     (.cond (.tmp 10) (.seq (.region false [⟨(some 11), .take 4, none⟩,
          ⟨(some 3), .take 11, none⟩])
       (.ret))
      (.skip))))
   (.seq (.region false [⟨(some 12), .lda 13 (.tmp 2), none⟩,
       ⟨(some 13), .call (.const (.fn 53 [] [])) [(.inr (.tmp 12))], none⟩,
       ⟨(some 3), .take 13, none⟩])
    (.ret)))
def a_model_Check_1 : AFn := ⟨14, [.tmp 3], c_model_Check_1, false⟩
theorem t_model_Check_1 : cFn Tryz.prog takesW Tryz.f51 = some a_model_Check_1 := by kernel_rfl
theorem n_model_Check_1 : (Tryz.f51.name == "runtime.NumGoroutine") = false := by kernel_rfl
def c_model_each_api_SiteDecl__l0b : ACode :=
  .seq (.region false [⟨(some 17), .bin .lss .prim (.tmp 16) (.tmp 15), none⟩])
  (.seq (.cond (.tmp 17) (.skip)
    (.exit 0))
   (.seq (.block 1 (.seq (.region false [⟨(some 18), .ia (.slice 13) (.tmp 14) (.tmp 16), none⟩,
         ⟨(some 19), .lda 13 (.tmp 18), none⟩,
         ⟨(some 8), .mk 62 [(.str []), (.own 3 []), (.own 17 []), (.own 3 []), (.own 3 []), (.own 1 []), (.own 1 []), (.own 1 []), (.own 1 []), (.own 1 []), (.own 4 []), (.own 5 []), (.own 3 [])], none⟩,
         ⟨none, .st 13 (.tmp 8) (.tmp 19), none⟩])
      (.seq (.region false [⟨(some 20), .mv (.tmp 2), none⟩,
          ⟨(some 21), .lda 13 (.tmp 8), none⟩,
          ⟨(some 22), .call (.tmp 20) [(.inr (.tmp 21))], none⟩,
          ⟨(some 9), .take 22, none⟩])
       (.seq (.region false [⟨(some 23), .mv (.tmp 9), none⟩,
           ⟨(some 24), .bin .neq .prim (.tmp 23) (.const (.int .i64 0)), none⟩])
        (.cond (.tmp 24) (.seq (.region false [⟨(some 25), .take 9, none⟩,
             ⟨(some 6), .take 25, none⟩])
          (.ret))
         (.skip))))))
    (.region false [⟨(some 26), .bin .add .prim (.tmp 16) (.const (.int .i64 1)), none⟩,
       ⟨(some 16), .mv (.tmp 26), none⟩])))
def c_model_each_api_SiteDecl__l0 : ACode := .loop c_model_each_api_SiteDecl__l0b
def c_model_each_api_SiteDecl__j1 : ACode :=
  .seq (.region false [⟨(some 6), .mv (.const (.int .i64 0)), none⟩])
  (.ret)
/-- simulator/model.each[simulator/api.SiteDecl] -/
def c_model_each_api_SiteDecl_ : ACode :=
  .seq (.region false [⟨(some 6), .mv (.const (.int .i64 0)), none⟩])
  (.seq (.seq (.region false [⟨(some 10), .mv (.tmp 0), none⟩,
       ⟨(some 11), .len .slice (.tmp 10), none⟩,
       ⟨(some 12), .mv (.tmp 1), none⟩,
       ⟨(some 13), .bin .gtr .prim (.tmp 11) (.tmp 12), none⟩])
    (.cond (.tmp 13) (.seq (.region false [⟨(some 6), .mv (.const (.int .i64 6)), none⟩])
      (.ret))
     (.skip)))
   (.seq (.seq (.region false [⟨(some 14), .mv (.tmp 0), none⟩,
        ⟨(some 15), .len .slice (.tmp 14), none⟩,
        ⟨(some 16), .mv (.const (.int .i64 0)), none⟩])
     (.block 0 (c_model_each_api_SiteDecl__l0)))
    c_model_each_api_SiteDecl__j1))
def a_model_each_api_SiteDecl_ : AFn := ⟨27, [.tmp 6], c_model_each_api_SiteDecl_, false⟩
theorem t_model_each_api_SiteDecl_ : cFn Tryz.prog takesW Tryz.f50 = some a_model_each_api_SiteDecl_ := by kernel_rfl
theorem n_model_each_api_SiteDecl_ : (Tryz.f50.name == "runtime.NumGoroutine") = false := by kernel_rfl
/-- simulator/model.links -/
def c_model_links : ACode :=
  .seq (.region false [⟨(some 1), .box 73 4 (.tmp 0), none⟩,
     ⟨(some 2), .mv (.const (.int .i64 0)), none⟩])
  (.seq (.region false [⟨(some 4), .mkmap, none⟩,
      ⟨(some 3), .mk 156 [.nilm], none⟩,
      ⟨none, .stt (.tmp 3) 4, none⟩])
   (.seq (.region false [⟨(some 5), .fa 3 (.tmp 1), none⟩,
       ⟨(some 6), .ldc (.tmp 5), none⟩,
       ⟨(some 7), .mkfn 103 [] [(.tmp 1), (.tmp 3)], none⟩,
       ⟨(some 8), .call (.const (.fn 102 [] [])) [(.inr (.tmp 6)), (.inr (.const (.int .i64 32))), (.inr (.tmp 7))], none⟩,
       ⟨(some 2), .take 8, none⟩])
    (.ret)))
def a_model_links : AFn := ⟨9, [.tmp 2], c_model_links, false⟩
theorem t_model_links : cFn Tryz.prog takesW Tryz.f54 = some a_model_links := by kernel_rfl
theorem n_model_links : (Tryz.f54.name == "runtime.NumGoroutine") = false := by kernel_rfl
def c_slices_EqualFunc_Lapi_Code_Lapi_Routine_api_Code_api_Routine__l0b : ACode :=
  .seq (.region false [⟨(some 18), .bin .lss .prim (.tmp 17) (.tmp 16), none⟩])
  (.seq (.cond (.tmp 18) (.skip)
    (.exit 0))
   (.seq (.block 1 (.seq (.region false [⟨(some 19), .mv (.tmp 17), none⟩,
         ⟨(some 20), .ia (.slice 4) (.tmp 15) (.tmp 17), none⟩,
         ⟨(some 21), .lda 4 (.tmp 20), none⟩,
         ⟨(some 8), .mk 77 [(.str []), (.int .i64 0), (.int .i64 0), (.own 20 [])], none⟩,
         ⟨(some 7), .take 19, none⟩,
         ⟨none, .st 4 (.tmp 8) (.tmp 21), none⟩])
      (.seq (.region false [⟨(some 22), .mv (.tmp 1), none⟩,
          ⟨(some 23), .mv (.tmp 7), none⟩,
          ⟨(some 24), .ia (.slice 4) (.tmp 22) (.tmp 23), none⟩,
          ⟨(some 25), .lda 4 (.tmp 24), none⟩,
          ⟨(some 9), .mk 94 [(.str []), (.own 2 []), (.own 2 []), (.own 21 [])], none⟩,
          ⟨none, .st 4 (.tmp 9) (.tmp 25), none⟩])
       (.seq (.region false [⟨(some 26), .mv (.tmp 2), none⟩,
           ⟨(some 27), .lda 4 (.tmp 8), none⟩,
           ⟨(some 28), .lda 4 (.tmp 9), none⟩,
           ⟨(some 29), .call (.tmp 26) [(.inr (.tmp 27)), (.inr (.tmp 28))], none⟩,
           ⟨(some 30), .un .not (.tmp 29), none⟩])
        (.cond (.tmp 30) (.seq (.region false [⟨(some 6), .mv (.const (.bool false)), none⟩])
          (.ret))
         (.skip))))))
    (.region false [⟨(some 31), .bin .add .prim (.tmp 17) (.const (.int .i64 1)), none⟩,
       ⟨(some 17), .mv (.tmp 31), none⟩])))
def c_slices_EqualFunc_Lapi_Code_Lapi_Routine_api_Code_api_Routine__l0 : ACode := .loop c_slices_EqualFunc_Lapi_Code_Lapi_Routine_api_Code_api_Routine__l0b
def c_slices_EqualFunc_Lapi_Code_Lapi_Routine_api_Code_api_Routine__j1 : ACode :=
  .seq (.region false [⟨(some 6), .mv (.const (.bool true)), none⟩])
  (.ret)
/-- slices.EqualFunc[[]simulator/api.Code,[]simulator/api.Routine,simulator/api.Code,simulator/api.Routine] -/
def c_slices_EqualFunc_Lapi_Code_Lapi_Routine_api_Code_api_Routine_ : ACode :=
  .seq (.region false [⟨(some 6), .mv (.const (.bool false)), none⟩])
  (.seq (.seq (.region false [⟨(some 10), .mv (.tmp 0), none⟩,
       ⟨(some 11), .len .slice (.tmp 10), none⟩,
       ⟨(some 12), .mv (.tmp 1), none⟩,
       ⟨(some 13), .len .slice (.tmp 12), none⟩,
       ⟨(some 14), .bin .neq .prim (.tmp 11) (.tmp 13), none⟩])
    (.cond (.tmp 14) (.seq (.region false [⟨(some 6), .mv (.const (.bool false)), none⟩])
      (.ret))
     (.skip)))
   (.seq (.seq (.region false [⟨(some 15), .mv (.tmp 0), none⟩,
        ⟨(some 16), .len .slice (.tmp 15), none⟩,
        ⟨(some 17), .mv (.const (.int .i64 0)), none⟩])
     (.block 0 (c_slices_EqualFunc_Lapi_Code_Lapi_Routine_api_Code_api_Routine__l0)))
    c_slices_EqualFunc_Lapi_Code_Lapi_Routine_api_Code_api_Routine__j1))
def a_slices_EqualFunc_Lapi_Code_Lapi_Routine_api_Code_api_Routine_ : AFn := ⟨32, [.tmp 6], c_slices_EqualFunc_Lapi_Code_Lapi_Routine_api_Code_api_Routine_, false⟩
theorem t_slices_EqualFunc_Lapi_Code_Lapi_Routine_api_Code_api_Routine_ : cFn Tryz.prog takesW Tryz.f55 = some a_slices_EqualFunc_Lapi_Code_Lapi_Routine_api_Code_api_Routine_ := by kernel_rfl
theorem n_slices_EqualFunc_Lapi_Code_Lapi_Routine_api_Code_api_Routine_ : (Tryz.f55.name == "runtime.NumGoroutine") = false := by kernel_rfl
/-- simulator/code.agrees$1 -/
def c_code_agrees_1 : ACode :=
  .seq (.region false [⟨(some 2), .box 77 4 (.tmp 0), none⟩,
     ⟨(some 3), .box 94 4 (.tmp 1), none⟩,
     ⟨(some 4), .mv (.const (.bool false)), none⟩])
  (.seq (.region false [⟨(some 5), .fa 0 (.tmp 2), none⟩,
      ⟨(some 6), .ldc (.tmp 5), none⟩,
      ⟨(some 7), .fa 0 (.tmp 3), none⟩,
      ⟨(some 8), .ldc (.tmp 7), none⟩,
      ⟨(some 9), .bin .eql .prim (.tmp 6) (.tmp 8), none⟩,
      ⟨(some 10), .mv (.tmp 9), none⟩,
      ⟨(some 11), .fa 1 (.tmp 2), (some (10, true))⟩,
      ⟨(some 12), .ldc (.tmp 11), (some (10, true))⟩,
      ⟨(some 13), .fa 1 (.tmp 3), (some (10, true))⟩,
      ⟨(some 14), .ldc (.tmp 13), (some (10, true))⟩,
      ⟨(some 15), .len .slice (.tmp 14), (some (10, true))⟩,
      ⟨(some 16), .bin .eql .prim (.tmp 12) (.tmp 15), (some (10, true))⟩,
      ⟨(some 17), .pick (.tmp 10) (.tmp 16) (.const (.bool false)), none⟩,
      ⟨(some 18), .mv (.tmp 17), none⟩,
      ⟨(some 19), .fa 3 (.tmp 3), (some (18, true))⟩,
      ⟨(some 20), .ldc (.tmp 19), (some (18, true))⟩,
      ⟨(some 21), .len .slice (.tmp 20), (some (18, true))⟩,
      ⟨(some 22), .bin .eql .prim (.tmp 21) (.const (.int .i64 0)), (some (18, true))⟩,
      ⟨(some 23), .pick (.tmp 18) (.tmp 22) (.const (.bool false)), none⟩,
      ⟨(some 4), .take 23, none⟩])
   (.ret))
def a_code_agrees_1 : AFn := ⟨24, [.tmp 4], c_code_agrees_1, false⟩
theorem t_code_agrees_1 : cFn Tryz.prog takesW Tryz.f56 = some a_code_agrees_1 := by kernel_rfl
theorem n_code_agrees_1 : (Tryz.f56.name == "runtime.NumGoroutine") = false := by kernel_rfl
def c__code_place__instr_j0 : ACode :=
  .seq (.seq (.seq (.region false [⟨(some 66), .lda 8 (.tmp 2), none⟩,
       ⟨(some 67), .fa 2 (.tmp 3), none⟩,
       ⟨(some 68), .ldc (.tmp 67), none⟩,
       ⟨(some 69), .mv (.tmp 6), none⟩,
       ⟨(some 70), .call (.const (.fn 107 [] [])) [(.inr (.tmp 66)), (.inr (.const (.int .i64 10))), (.inr (.tmp 68)), (.inr (.tmp 69))], none⟩,
       ⟨(some 71), .un .not (.tmp 70), none⟩])
    (.cond (.tmp 71) (.seq (.region false [⟨(some 4), .mv (.const (.int .i64 2)), none⟩])
      (.ret))
     (.skip)))
   (.seq (.region true [⟨(some 72), .fa 12 (.tmp 3), none⟩,
       ⟨(some 73), .ldc (.tmp 72), none⟩,
       ⟨(some 74), .len .slice (.tmp 73), none⟩,
       ⟨(some 75), .fa 0 (.tmp 2), none⟩,
       ⟨(some 76), .fa 1 (.tmp 75), none⟩,
       ⟨(some 77), .ldc (.tmp 76), none⟩,
       ⟨(some 78), .mv (.tmp 6), none⟩,
       ⟨(some 79), .ia (.slice 14) (.tmp 77) (.tmp 78), none⟩,
       ⟨(some 80), .fa 13 (.tmp 79), none⟩,
       ⟨(some 81), .ldc (.tmp 80), none⟩,
       ⟨(some 82), .fa 2 (.tmp 3), none⟩,
       ⟨(some 83), .ldc (.tmp 82), none⟩,
       ⟨(some 84), .ia (.slice 4) (.tmp 81) (.tmp 83), none⟩,
       ⟨(some 85), .fa 1 (.tmp 84), none⟩,
       ⟨(some 86), .ldc (.tmp 85), none⟩,
       ⟨(some 87), .bin .neq .prim (.tmp 74) (.tmp 86), none⟩])
    (.cond (.tmp 87) (.seq (.region false [⟨(some 4), .mv (.const (.int .i64 8)), none⟩])
      (.ret))
     (.skip))))
  (.exit 0)
def c__code_place__instr_j1 : ACode :=
  .seq (.seq (.region false [⟨(some 88), .fa 2 (.tmp 5), none⟩,
      ⟨(some 89), .ldc (.tmp 88), none⟩,
      ⟨(some 90), .bin .neq .prim (.tmp 89) (.const (.int .i64 0)), none⟩,
      ⟨(some 91), .mv (.tmp 90), none⟩,
      ⟨(some 92), .lda 8 (.tmp 2), (some (91, true))⟩,
      ⟨(some 93), .fa 2 (.tmp 5), (some (91, true))⟩,
      ⟨(some 94), .ldc (.tmp 93), (some (91, true))⟩,
      ⟨(some 95), .fa 2 (.tmp 3), (some (91, true))⟩,
      ⟨(some 96), .ldc (.tmp 95), (some (91, true))⟩,
      ⟨(some 97), .call (.const (.fn 107 [] [])) [(.inr (.tmp 92)), (.inr (.tmp 94)), (.inr (.tmp 96)), (.inr (.const (.int .i64 0)))], (some (91, true))⟩,
      ⟨(some 98), .un .not (.tmp 97), (some (91, true))⟩,
      ⟨(some 99), .pick (.tmp 91) (.tmp 98) (.const (.bool false)), none⟩])
   (.cond (.tmp 99) (.seq (.region false [⟨(some 4), .mv (.const (.int .i64 2)), none⟩])
     (.ret))
    (.skip)))
  (.exit 0)
def c__code_place__instr_l3b : ACode :=
  .seq (.region false [⟨(some 104), .bin .lss .prim (.tmp 103) (.tmp 102), none⟩])
  (.seq (.cond (.tmp 104) (.skip)
    (.exit 4))
   (.seq (.block 5 (.seq (.region false [⟨(some 105), .ia (.slice 4) (.tmp 101) (.tmp 103), none⟩,
         ⟨(some 106), .lda 4 (.tmp 105), none⟩,
         ⟨(some 10), .mk 104 [(.int .i64 0), (.str []), (.int .i64 0), (.own 4 [])], none⟩,
         ⟨none, .st 4 (.tmp 10) (.tmp 106), none⟩])
      (.seq (.seq (.region false [⟨(some 107), .lda 4 (.tmp 10), none⟩,
           ⟨(some 108), .call (.const (.fn 110 [] [])) [(.inr (.tmp 107))], none⟩,
           ⟨(some 11), .take 108, none⟩])
        (.seq (.region false [⟨(some 109), .mv (.tmp 11), none⟩,
            ⟨(some 110), .bin .neq .prim (.tmp 109) (.const (.int .i64 0)), none⟩])
         (.cond (.tmp 110) (.seq (.region false [⟨(some 111), .take 11, none⟩,
              ⟨(some 4), .take 111, none⟩])
           (.ret))
          (.skip))))
       (.seq (.region false [⟨(some 112), .lda 8 (.tmp 2), none⟩,
           ⟨(some 113), .lda 4 (.tmp 10), none⟩,
           ⟨(some 114), .call (.const (.fn 111 [] [])) [(.inr (.tmp 112)), (.inr (.tmp 113))], none⟩,
           ⟨(some 115), .un .not (.tmp 114), none⟩])
        (.cond (.tmp 115) (.seq (.region false [⟨(some 4), .mv (.const (.int .i64 2)), none⟩])
          (.ret))
         (.skip))))))
    (.region false [⟨(some 116), .bin .add .prim (.tmp 103) (.const (.int .i64 1)), none⟩,
       ⟨(some 103), .mv (.tmp 116), none⟩])))
def c__code_place__instr_l3 : ACode := .loop c__code_place__instr_l3b
def c__code_place__instr_j4 : ACode :=
  .seq (.seq (.region false [⟨(some 117), .fa 7 (.tmp 5), none⟩,
      ⟨(some 118), .ldc (.tmp 117), none⟩])
   (.cond (.tmp 118) (.seq (.region false [⟨(some 119), .fa 13 (.tmp 3), none⟩,
        ⟨(some 120), .lda 6 (.tmp 119), none⟩,
        ⟨(some 121), .call (.const (.fn 112 [] [])) [(.inr (.tmp 120))], none⟩,
        ⟨(some 4), .take 121, none⟩])
     (.ret))
    (.skip)))
  (.seq (.region false [⟨(some 4), .mv (.const (.int .i64 0)), none⟩])
   (.ret))
def c__code_place__instr_j2 : ACode :=
  .seq (.seq (.region false [⟨(some 100), .lda 20 (.tmp 3), none⟩,
      ⟨(some 101), .call (.const (.fn 109 [] [])) [(.inr (.tmp 100))], none⟩,
      ⟨(some 102), .len .slice (.tmp 101), none⟩,
      ⟨(some 103), .mv (.const (.int .i64 0)), none⟩])
   (.block 4 (c__code_place__instr_l3)))
  c__code_place__instr_j4
/-- (simulator/code.place).instr -/
def c__code_place__instr : ACode :=
  .seq (.region false [⟨(some 2), .box 99 8 (.tmp 0), none⟩,
     ⟨(some 3), .box 109 20 (.tmp 1), none⟩,
     ⟨(some 4), .mv (.const (.int .i64 0)), none⟩])
  (.seq (.seq (.region false [⟨(some 12), .fa 0 (.tmp 3), none⟩,
       ⟨(some 13), .ldc (.tmp 12), none⟩,
       ⟨(some 14), .call (.const (.fn 105 [] [])) [(.inr (.tmp 13))], none⟩,
       ⟨(some 15), .un .not (.tmp 14), none⟩,
       ⟨(some 16), .mv (.tmp 15), none⟩,
       ⟨(some 17), .lda 20 (.tmp 3), (some (16, false))⟩,
       ⟨(some 18), .call (.const (.fn 106 [] [])) [(.inr (.tmp 17))], (some (16, false))⟩,
       ⟨(some 19), .un .not (.tmp 18), (some (16, false))⟩,
       ⟨(some 20), .pick (.tmp 16) (.const (.bool true)) (.tmp 19), none⟩])
    (.cond (.tmp 20) (.seq (.region false [⟨(some 4), .mv (.const (.int .i64 1)), none⟩])
      (.ret))
     (.skip)))
   (.seq (.region false [⟨(some 21), .ldc (.glob 0), none⟩,
       ⟨(some 22), .fa 0 (.tmp 3), none⟩,
       ⟨(some 23), .ldc (.tmp 22), none⟩,
       ⟨(some 24), .ia (.slice 9) (.tmp 21) (.tmp 23), none⟩,
       ⟨(some 25), .lda 9 (.tmp 24), none⟩,
       ⟨(some 5), .mk 167 [(.str []), (.int .i64 0), (.int .i64 0), (.bool false), (.bool false), (.bool false), (.bool false), (.bool false), (.bool false)], none⟩,
       ⟨none, .st 9 (.tmp 5) (.tmp 25), none⟩])
    (.seq (.seq (.region false [⟨(some 26), .lda 8 (.tmp 2), none⟩,
         ⟨(some 27), .fa 1 (.tmp 5), none⟩,
         ⟨(some 28), .ldc (.tmp 27), none⟩,
         ⟨(some 29), .fa 1 (.tmp 3), none⟩,
         ⟨(some 30), .ldc (.tmp 29), none⟩,
         ⟨(some 31), .call (.const (.fn 107 [] [])) [(.inr (.tmp 26)), (.inr (.tmp 28)), (.inr (.tmp 30)), (.inr (.const (.int .i64 0)))], none⟩,
         ⟨(some 32), .un .not (.tmp 31), none⟩,
         ⟨(some 33), .mv (.tmp 32), none⟩,
         ⟨(some 34), .fa 1 (.tmp 5), (some (33, true))⟩,
         ⟨(some 35), .ldc (.tmp 34), (some (33, true))⟩,
         ⟨(some 36), .bin .neq .prim (.tmp 35) (.const (.int .i64 0)), (some (33, true))⟩,
         ⟨(some 37), .pick (.tmp 33) (.tmp 36) (.const (.bool false)), none⟩])
      (.cond (.tmp 37) (.seq (.region false [⟨(some 4), .mv (.const (.int .i64 2)), none⟩])
        (.ret))
       (.skip)))
     (.seq (.region false [⟨(some 38), .fa 3 (.tmp 2), none⟩,
         ⟨(some 39), .ldc (.tmp 38), none⟩,
         ⟨(some 6), .take 39, none⟩])
      (.seq (.seq (.region false [⟨(some 40), .fa 0 (.tmp 3), none⟩,
           ⟨(some 41), .ldc (.tmp 40), none⟩])
        (.block 0 (.seq (.block 3 (.seq (.block 2 (.seq (.block 1 (.seq (.seq (.seq (.region false [⟨(some 43), .bin .eql .prim (.tmp 41) (.const (.int .i64 14)), none⟩,
                     ⟨(some 42), .take 43, none⟩])
                  (.cond (.tmp 42) (.exit 1)
                   (.skip)))
                 (.seq (.region false [⟨(some 45), .bin .eql .prim (.tmp 41) (.const (.int .i64 15)), none⟩,
                     ⟨(some 44), .take 45, none⟩])
                  (.cond (.tmp 44) (.exit 2)
                   (.skip))))
                (.exit 3)))
              (.seq (.region false [⟨(some 46), .fa 1 (.tmp 3), none⟩,
                  ⟨(some 47), .ldc (.tmp 46), none⟩,
                  ⟨(some 6), .take 47, none⟩])
               (.seq (.region false [⟨(some 49), .fa 0 (.tmp 2), none⟩,
                   ⟨(some 50), .lda 3 (.tmp 49), none⟩,
                   ⟨(some 51), .fa 3 (.tmp 2), none⟩,
                   ⟨(some 52), .ldc (.tmp 51), none⟩,
                   ⟨(some 53), .fa 1 (.tmp 3), none⟩,
                   ⟨(some 54), .ldc (.tmp 53), none⟩,
                   ⟨(some 55), .call (.const (.fn 108 [] [])) [(.inr (.tmp 50)), (.inr (.tmp 52)), (.inr (.tmp 54))], none⟩,
                   ⟨(some 48), .mv (.tmp 55), none⟩,
                   ⟨(some 56), .extract (.tmp 48) 0, none⟩,
                   ⟨(some 57), .extract (.tmp 48) 1, none⟩,
                   ⟨(some 7), .take 56, none⟩,
                   ⟨(some 8), .take 57, none⟩])
                (.seq (.region false [⟨(some 58), .mv (.tmp 8), none⟩,
                    ⟨(some 59), .un .not (.tmp 58), none⟩,
                    ⟨(some 60), .mv (.tmp 59), none⟩,
                    ⟨(some 61), .mv (.tmp 7), (some (60, false))⟩,
                    ⟨(some 62), .fa 3 (.tmp 3), (some (60, false))⟩,
                    ⟨(some 63), .ldc (.tmp 62), (some (60, false))⟩,
                    ⟨(some 64), .bin .neq .prim (.tmp 61) (.tmp 63), (some (60, false))⟩,
                    ⟨(some 65), .pick (.tmp 60) (.const (.bool true)) (.tmp 64), none⟩])
                 (.cond (.tmp 65) (.seq (.region false [⟨(some 4), .mv (.const (.int .i64 16)), none⟩])
                   (.ret))
                  (.skip)))))))
            c__code_place__instr_j0))
          c__code_place__instr_j1)))
       c__code_place__instr_j2)))))
def a__code_place__instr : AFn := ⟨122, [.tmp 4], c__code_place__instr, false⟩
theorem t__code_place__instr : cFn Tryz.prog takesW Tryz.f57 = some a__code_place__instr := by kernel_rfl
theorem n__code_place__instr : (Tryz.f57.name == "runtime.NumGoroutine") = false := by kernel_rfl
/-- math/bits.Mul32 -/
def c_math_bits_Mul32 : ACode :=
  .seq (.region false [⟨(some 4), .mv (.const (.int .u32 0)), none⟩,
     ⟨(some 5), .mv (.const (.int .u32 0)), none⟩])
  (.seq (.region false [⟨(some 7), .mv (.tmp 0), none⟩,
      ⟨(some 8), .conv (.int .u64) (.tmp 7), none⟩,
      ⟨(some 9), .mv (.tmp 1), none⟩,
      ⟨(some 10), .conv (.int .u64) (.tmp 9), none⟩,
      ⟨(some 11), .bin .mul .prim (.tmp 8) (.tmp 10), none⟩,
      ⟨(some 6), .take 11, none⟩])
   (.seq (.region false [⟨(some 12), .mv (.tmp 6), none⟩,
       ⟨(some 13), .bin .shr .prim (.tmp 12) (.const (.int .u64 32)), none⟩,
       ⟨(some 14), .conv (.int .u32) (.tmp 13), none⟩,
       ⟨(some 15), .mv (.tmp 6), none⟩,
       ⟨(some 16), .conv (.int .u32) (.tmp 15), none⟩,
       ⟨(some 4), .take 14, none⟩,
       ⟨(some 5), .take 16, none⟩])
    (.ret)))
def a_math_bits_Mul32 : AFn := ⟨17, [.tmp 4, .tmp 5], c_math_bits_Mul32, false⟩
theorem t_math_bits_Mul32 : cFn Tryz.prog takesW Tryz.f67 = some a_math_bits_Mul32 := by kernel_rfl
theorem n_math_bits_Mul32 : (Tryz.f67.name == "runtime.NumGoroutine") = false := by kernel_rfl
/-- math/bits.Mul64 -/
def c_math_bits_Mul64 : ACode :=
  .seq (.region false [⟨(some 4), .mv (.const (.int .u64 0)), none⟩,
     ⟨(some 5), .mv (.const (.int .u64 0)), none⟩])
  (.seq (.region false [⟨(some 14), .mv (.tmp 0), none⟩,
      ⟨(some 15), .bin .and .prim (.tmp 14) (.const (.int .u64 4294967295)), none⟩,
      ⟨(some 6), .take 15, none⟩])
   (.seq (.region false [⟨(some 16), .mv (.tmp 0), none⟩,
       ⟨(some 17), .bin .shr .prim (.tmp 16) (.const (.int .u64 32)), none⟩,
       ⟨(some 7), .take 17, none⟩])
    (.seq (.region false [⟨(some 18), .mv (.tmp 1), none⟩,
        ⟨(some 19), .bin .and .prim (.tmp 18) (.const (.int .u64 4294967295)), none⟩,
        ⟨(some 8), .take 19, none⟩])
     (.seq (.region false [⟨(some 20), .mv (.tmp 1), none⟩,
         ⟨(some 21), .bin .shr .prim (.tmp 20) (.const (.int .u64 32)), none⟩,
         ⟨(some 9), .take 21, none⟩])
      (.seq (.region false [⟨(some 22), .mv (.tmp 6), none⟩,
          ⟨(some 23), .mv (.tmp 8), none⟩,
          ⟨(some 24), .bin .mul .prim (.tmp 22) (.tmp 23), none⟩,
          ⟨(some 10), .take 24, none⟩])
       (.seq (.region false [⟨(some 25), .mv (.tmp 7), none⟩,
           ⟨(some 26), .mv (.tmp 8), none⟩,
           ⟨(some 27), .bin .mul .prim (.tmp 25) (.tmp 26), none⟩,
           ⟨(some 28), .mv (.tmp 10), none⟩,
           ⟨(some 29), .bin .shr .prim (.tmp 28) (.const (.int .u64 32)), none⟩,
           ⟨(some 30), .bin .add .prim (.tmp 27) (.tmp 29), none⟩,
           ⟨(some 11), .take 30, none⟩])
        (.seq (.region false [⟨(some 31), .mv (.tmp 11), none⟩,
            ⟨(some 32), .bin .and .prim (.tmp 31) (.const (.int .u64 4294967295)), none⟩,
            ⟨(some 12), .take 32, none⟩])
         (.seq (.region false [⟨(some 33), .mv (.tmp 11), none⟩,
             ⟨(some 34), .bin .shr .prim (.tmp 33) (.const (.int .u64 32)), none⟩,
             ⟨(some 13), .take 34, none⟩])
          (.seq (.region false [⟨(some 35), .mv (.tmp 12), none⟩,
              ⟨(some 36), .mv (.tmp 6), none⟩,
              ⟨(some 37), .mv (.tmp 9), none⟩,
              ⟨(some 38), .bin .mul .prim (.tmp 36) (.tmp 37), none⟩,
              ⟨(some 39), .bin .add .prim (.tmp 35) (.tmp 38), none⟩,
              ⟨(some 12), .take 39, none⟩])
           (.seq (.region false [⟨(some 40), .mv (.tmp 7), none⟩,
               ⟨(some 41), .mv (.tmp 9), none⟩,
               ⟨(some 42), .bin .mul .prim (.tmp 40) (.tmp 41), none⟩,
               ⟨(some 43), .mv (.tmp 13), none⟩,
               ⟨(some 44), .bin .add .prim (.tmp 42) (.tmp 43), none⟩,
               ⟨(some 45), .mv (.tmp 12), none⟩,
               ⟨(some 46), .bin .shr .prim (.tmp 45) (.const (.int .u64 32)), none⟩,
               ⟨(some 47), .bin .add .prim (.tmp 44) (.tmp 46), none⟩,
               ⟨(some 4), .take 47, none⟩])
            (.seq (.region false [⟨(some 48), .mv (.tmp 0), none⟩,
                ⟨(some 49), .mv (.tmp 1), none⟩,
                ⟨(some 50), .bin .mul .prim (.tmp 48) (.tmp 49), none⟩,
                ⟨(some 5), .take 50, none⟩])
             (.ret))))))))))))
def a_math_bits_Mul64 : AFn := ⟨51, [.tmp 4, .tmp 5], c_math_bits_Mul64, false⟩
theorem t_math_bits_Mul64 : cFn Tryz.prog takesW Tryz.f68 = some a_math_bits_Mul64 := by kernel_rfl
theorem n_math_bits_Mul64 : (Tryz.f68.name == "runtime.NumGoroutine") = false := by kernel_rfl
/-- (simulator/model.scope).value -/
def c__model_scope__value : ACode :=
  .seq (.region false [⟨(some 3), .box 116 3 (.tmp 1), none⟩,
     ⟨(some 4), .mv (.const (.int .i64 0)), none⟩])
  (.seq (.seq (.region false [⟨(some 6), .mv (.tmp 0), none⟩,
       ⟨(some 7), .fa 0 (.tmp 3), none⟩,
       ⟨(some 8), .ldc (.tmp 7), none⟩,
       ⟨(some 9), .call (.const (.fn 52 [] [])) [(.inr (.tmp 6)), (.inr (.tmp 8))], none⟩,
       ⟨(some 5), .take 9, none⟩])
    (.seq (.region false [⟨(some 10), .mv (.tmp 5), none⟩,
        ⟨(some 11), .bin .neq .prim (.tmp 10) (.const (.int .i64 0)), none⟩])
     (.cond (.tmp 11) (.seq (.region false [⟨(some 12), .take 5, none⟩,
          ⟨(some 4), .take 12, none⟩])
       (.ret))
      (.skip))))
   (.seq (.block 0 (.seq (.region false [⟨(some 14), .fa 1 (.tmp 3), none⟩,
         ⟨(some 15), .ldc (.tmp 14), none⟩,
         ⟨(some 16), .call (.const (.fn 130 [] [])) [(.inr (.tmp 15))], none⟩,
         ⟨(some 17), .un .not (.tmp 16), none⟩,
         ⟨(some 13), .take 17, none⟩])
      (.cond (.tmp 13) (.seq (.region false [⟨(some 4), .mv (.const (.int .i64 1)), none⟩])
        (.ret))
       (.seq (.region false [⟨(some 19), .fa 1 (.tmp 3), none⟩,
           ⟨(some 20), .ldc (.tmp 19), none⟩,
           ⟨(some 21), .fa 2 (.tmp 3), none⟩,
           ⟨(some 22), .ldc (.tmp 21), none⟩,
           ⟨(some 23), .call (.const (.fn 131 [] [])) [(.inr (.tmp 20)), (.inr (.tmp 22))], none⟩,
           ⟨(some 24), .un .not (.tmp 23), none⟩,
           ⟨(some 18), .take 24, none⟩])
        (.cond (.tmp 18) (.seq (.region false [⟨(some 4), .mv (.const (.int .i64 2)), none⟩])
          (.ret))
         (.skip))))))
    (.seq (.region false [⟨(some 4), .mv (.const (.int .i64 0)), none⟩])
     (.ret))))
def a__model_scope__value : AFn := ⟨25, [.tmp 4], c__model_scope__value, false⟩
theorem t__model_scope__value : cFn Tryz.prog takesW Tryz.f70 = some a__model_scope__value := by kernel_rfl
theorem n__model_scope__value : (Tryz.f70.name == "runtime.NumGoroutine") = false := by kernel_rfl
def c_model_each_api_Value__l0b : ACode :=
  .seq (.region false [⟨(some 17), .bin .lss .prim (.tmp 16) (.tmp 15), none⟩])
  (.seq (.cond (.tmp 17) (.skip)
    (.exit 0))
   (.seq (.block 1 (.seq (.region false [⟨(some 18), .ia (.slice 3) (.tmp 14) (.tmp 16), none⟩,
         ⟨(some 19), .lda 3 (.tmp 18), none⟩,
         ⟨(some 8), .mk 116 [(.str []), (.int .i64 0), (.int .i64 0)], none⟩,
         ⟨none, .st 3 (.tmp 8) (.tmp 19), none⟩])
      (.seq (.region false [⟨(some 20), .mv (.tmp 2), none⟩,
          ⟨(some 21), .lda 3 (.tmp 8), none⟩,
          ⟨(some 22), .call (.tmp 20) [(.inr (.tmp 21))], none⟩,
          ⟨(some 9), .take 22, none⟩])
       (.seq (.region false [⟨(some 23), .mv (.tmp 9), none⟩,
           ⟨(some 24), .bin .neq .prim (.tmp 23) (.const (.int .i64 0)), none⟩])
        (.cond (.tmp 24) (.seq (.region false [⟨(some 25), .take 9, none⟩,
             ⟨(some 6), .take 25, none⟩])
          (.ret))
         (.skip))))))
    (.region false [⟨(some 26), .bin .add .prim (.tmp 16) (.const (.int .i64 1)), none⟩,
       ⟨(some 16), .mv (.tmp 26), none⟩])))
def c_model_each_api_Value__l0 : ACode := .loop c_model_each_api_Value__l0b
def c_model_each_api_Value__j1 : ACode :=
  .seq (.region false [⟨(some 6), .mv (.const (.int .i64 0)), none⟩])
  (.ret)
/-- simulator/model.each[simulator/api.Value] -/
def c_model_each_api_Value_ : ACode :=
  .seq (.region false [⟨(some 6), .mv (.const (.int .i64 0)), none⟩])
  (.seq (.seq (.region false [⟨(some 10), .mv (.tmp 0), none⟩,
       ⟨(some 11), .len .slice (.tmp 10), none⟩,
       ⟨(some 12), .mv (.tmp 1), none⟩,
       ⟨(some 13), .bin .gtr .prim (.tmp 11) (.tmp 12), none⟩])
    (.cond (.tmp 13) (.seq (.region false [⟨(some 6), .mv (.const (.int .i64 6)), none⟩])
      (.ret))
     (.skip)))
   (.seq (.seq (.region false [⟨(some 14), .mv (.tmp 0), none⟩,
        ⟨(some 15), .len .slice (.tmp 14), none⟩,
        ⟨(some 16), .mv (.const (.int .i64 0)), none⟩])
     (.block 0 (c_model_each_api_Value__l0)))
    c_model_each_api_Value__j1))
def a_model_each_api_Value_ : AFn := ⟨27, [.tmp 6], c_model_each_api_Value_, false⟩
theorem t_model_each_api_Value_ : cFn Tryz.prog takesW Tryz.f69 = some a_model_each_api_Value_ := by kernel_rfl
theorem n_model_each_api_Value_ : (Tryz.f69.name == "runtime.NumGoroutine") = false := by kernel_rfl
/-- (simulator/model.scope).enter -/
def c__model_scope__enter : ACode :=
  .seq (.region false [⟨(some 4), .mv (.const (.int .i64 0)), none⟩])
  (.seq (.seq (.region false [⟨(some 6), .mv (.tmp 1), none⟩,
       ⟨(some 7), .call (.const (.fn 33 [] [])) [(.inr (.tmp 6))], none⟩,
       ⟨(some 5), .take 7, none⟩])
    (.seq (.region false [⟨(some 8), .mv (.tmp 5), none⟩,
        ⟨(some 9), .bin .neq .prim (.tmp 8) (.const (.int .i64 0)), none⟩])
     (.cond (.tmp 9) (.seq (.region false [⟨(some 10), .take 5, none⟩,
          ⟨(some 4), .take 10, none⟩])
       (.ret))
      (.skip))))
   (.seq (.seq (.region false [⟨(some 11), .mv (.tmp 0), none⟩,
        ⟨(some 12), .mv (.tmp 1), none⟩,
        ⟨(some 13), .look (.one .str) (.bool false) (.tmp 11) (.tmp 12) false, none⟩])
     (.cond (.tmp 13) (.seq (.region false [⟨(some 4), .mv (.const (.int .i64 4)), none⟩])
       (.ret))
      (.skip)))
    (.seq (.region false [⟨(some 14), .mv (.tmp 0), none⟩,
        ⟨(some 15), .mv (.tmp 1), none⟩,
        ⟨none, .mupd (.one .str) (.tmp 14) (.tmp 15) (.const (.bool true)), none⟩])
     (.seq (.region false [⟨(some 4), .mv (.const (.int .i64 0)), none⟩])
      (.ret)))))
def a__model_scope__enter : AFn := ⟨16, [.tmp 4], c__model_scope__enter, false⟩
theorem t__model_scope__enter : cFn Tryz.prog takesW Tryz.f52 = some a__model_scope__enter := by kernel_rfl
theorem n__model_scope__enter : (Tryz.f52.name == "runtime.NumGoroutine") = false := by kernel_rfl
/-- simulator/model.site -/
def c_model_site : ACode :=
  .seq (.region false [⟨(some 1), .box 62 13 (.tmp 0), none⟩,
     ⟨(some 2), .mv (.const (.int .i64 0)), none⟩])
  (.seq (.region false [⟨(some 5), .mkmap, none⟩,
      ⟨(some 3), .mk 86 [.nilm], none⟩,
      ⟨none, .stt (.tmp 3) 5, none⟩])
   (.seq (.region false [⟨(some 6), .mkfn 71 [] [(.tmp 3)], none⟩,
       ⟨(some 4), .mk 128 [.nilf], none⟩,
       ⟨none, .stt (.tmp 4) 6, none⟩])
    (.seq (.region false [⟨(some 7), .mkfn 74 [] [(.tmp 3), (.tmp 1)], none⟩,
        ⟨(some 8), .mkfn 75 [] [(.tmp 1), (.tmp 3)], none⟩,
        ⟨(some 9), .mkfn 81 [] [(.tmp 1), (.tmp 3)], none⟩,
        ⟨(some 10), .mkfn 84 [] [(.tmp 1), (.tmp 3)], none⟩,
        ⟨(some 11), .mkfn 87 [] [(.tmp 4), (.tmp 1)], none⟩,
        ⟨(some 12), .mkfn 88 [] [(.tmp 4), (.tmp 1)], none⟩,
        ⟨(some 13), .mkfn 89 [] [(.tmp 4), (.tmp 1)], none⟩,
        ⟨(some 14), .mkfn 90 [] [(.tmp 4), (.tmp 1)], none⟩,
        ⟨(some 15), .mkfn 91 [] [(.tmp 4), (.tmp 1)], none⟩,
        ⟨(some 16), .mkfn 92 [] [(.tmp 1), (.tmp 3)], none⟩,
        ⟨(some 17), .mkfn 96 [] [(.tmp 1)], none⟩,
        ⟨(some 18), .mkfn 100 [] [(.tmp 1)], none⟩,
        ⟨(some 19), .lit 130 1 [(.tmp 7), (.tmp 8), (.tmp 9), (.tmp 10), (.tmp 11), (.tmp 12), (.tmp 13), (.tmp 14), (.tmp 15), (.tmp 16), (.tmp 17), (.tmp 18)], none⟩,
        ⟨(some 20), .call (.const (.fn 73 [] [])) [(.inr (.tmp 19))], none⟩,
        ⟨(some 2), .take 20, none⟩])
     (.ret))))
def a_model_site : AFn := ⟨21, [.tmp 2], c_model_site, false⟩
theorem t_model_site : cFn Tryz.prog takesW Tryz.f53 = some a_model_site := by kernel_rfl
theorem n_model_site : (Tryz.f53.name == "runtime.NumGoroutine") = false := by kernel_rfl
/-- simulator/model.links$1 -/
def c_model_links_1 : ACode :=
  .seq (.region false [⟨(some 3), .box 159 3 (.tmp 0), none⟩,
     ⟨(some 4), .mv (.const (.int .i64 0)), none⟩])
  (.seq (.region false [⟨(some 6), .fa 0 (.tmp 3), none⟩,
      ⟨(some 7), .ldc (.tmp 6), none⟩,
      ⟨(some 8), .fa 1 (.tmp 3), none⟩,
      ⟨(some 9), .ldc (.tmp 8), none⟩,
      ⟨(some 10), .build [(.str []), (.str [])] [(0, 1, (.tmp 7)), (1, 1, (.tmp 9))], none⟩,
      ⟨(some 5), .mk 160 [(.str []), (.str [])], none⟩,
      ⟨none, .st 2 (.tmp 5) (.tmp 10), none⟩])
   (.seq (.block 0 (.seq (.region false [⟨(some 12), .lda 4 (.tmp 1), none⟩,
         ⟨(some 13), .fa 0 (.tmp 3), none⟩,
         ⟨(some 14), .ldc (.tmp 13), none⟩,
         ⟨(some 15), .call (.const (.fn 104 [] [])) [(.inr (.tmp 12)), (.inr (.tmp 14))], none⟩,
         ⟨(some 16), .bin .lss .prim (.tmp 15) (.const (.int .i64 0)), none⟩,
         ⟨(some 17), .mv (.tmp 16), none⟩,
         ⟨(some 18), .lda 4 (.tmp 1), (some (17, false))⟩,
         ⟨(some 19), .fa 1 (.tmp 3), (some (17, false))⟩,
         ⟨(some 20), .ldc (.tmp 19), (some (17, false))⟩,
         ⟨(some 21), .call (.const (.fn 104 [] [])) [(.inr (.tmp 18)), (.inr (.tmp 20))], (some (17, false))⟩,
         ⟨(some 22), .bin .lss .prim (.tmp 21) (.const (.int .i64 0)), (some (17, false))⟩,
         ⟨(some 23), .pick (.tmp 17) (.const (.bool true)) (.tmp 22), none⟩,
         ⟨(some 11), .take 23, none⟩])
      (.cond (.tmp 11) (.seq (.region false [⟨(some 4), .mv (.const (.int .i64 5)), none⟩])
        (.ret))
       (.seq (.region false [⟨(some 25), .fa 0 (.tmp 3), none⟩,
           ⟨(some 26), .ldc (.tmp 25), none⟩,
           ⟨(some 27), .fa 1 (.tmp 3), none⟩,
           ⟨(some 28), .ldc (.tmp 27), none⟩,
           ⟨(some 29), .bin .eql .prim (.tmp 26) (.tmp 28), none⟩,
           ⟨(some 24), .take 29, none⟩])
        (.cond (.tmp 24) (.seq (.region false [⟨(some 4), .mv (.const (.int .i64 1)), none⟩])
          (.ret))
         (.seq (.region false [⟨(some 31), .fa 2 (.tmp 3), none⟩,
             ⟨(some 32), .ldc (.tmp 31), none⟩,
             ⟨(some 33), .call (.const (.fn 78 [] [])) [(.inr (.tmp 32)), (.inr (.const (.int .i64 1))), (.inr (.const (.int .i64 1000000000)))], none⟩,
             ⟨(some 34), .un .not (.tmp 33), none⟩,
             ⟨(some 30), .take 34, none⟩])
          (.cond (.tmp 30) (.seq (.region false [⟨(some 4), .mv (.const (.int .i64 2)), none⟩])
            (.ret))
           (.seq (.region false [⟨(some 36), .ldc (.tmp 2), none⟩,
               ⟨(some 37), .lda 2 (.tmp 5), none⟩,
               ⟨(some 38), .look (.pair .str) (.bool false) (.tmp 36) (.tmp 37) false, none⟩,
               ⟨(some 35), .take 38, none⟩])
            (.cond (.tmp 35) (.seq (.region false [⟨(some 4), .mv (.const (.int .i64 4)), none⟩])
              (.ret))
             (.skip))))))))))
    (.seq (.region false [⟨(some 39), .ldc (.tmp 2), none⟩,
        ⟨(some 40), .lda 2 (.tmp 5), none⟩,
        ⟨none, .mupd (.pair .str) (.tmp 39) (.tmp 40) (.const (.bool true)), none⟩])
     (.seq (.region false [⟨(some 4), .mv (.const (.int .i64 0)), none⟩])
      (.ret)))))
def a_model_links_1 : AFn := ⟨41, [.tmp 4], c_model_links_1, false⟩
theorem t_model_links_1 : cFn Tryz.prog takesW Tryz.f103 = some a_model_links_1 := by kernel_rfl
theorem n_model_links_1 : (Tryz.f103.name == "runtime.NumGoroutine") = false := by kernel_rfl
def c_model_each_api_Link__l0b : ACode :=
  .seq (.region false [⟨(some 17), .bin .lss .prim (.tmp 16) (.tmp 15), none⟩])
  (.seq (.cond (.tmp 17) (.skip)
    (.exit 0))
   (.seq (.block 1 (.seq (.region false [⟨(some 18), .ia (.slice 3) (.tmp 14) (.tmp 16), none⟩,
         ⟨(some 19), .lda 3 (.tmp 18), none⟩,
         ⟨(some 8), .mk 159 [(.str []), (.str []), (.int .i64 0)], none⟩,
         ⟨none, .st 3 (.tmp 8) (.tmp 19), none⟩])
      (.seq (.region false [⟨(some 20), .mv (.tmp 2), none⟩,
          ⟨(some 21), .lda 3 (.tmp 8), none⟩,
          ⟨(some 22), .call (.tmp 20) [(.inr (.tmp 21))], none⟩,
          ⟨(some 9), .take 22, none⟩])
       (.seq (.region false [⟨(some 23), .mv (.tmp 9), none⟩,
           ⟨(some 24), .bin .neq .prim (.tmp 23) (.const (.int .i64 0)), none⟩])
        (.cond (.tmp 24) (.seq (.region false [⟨(some 25), .take 9, none⟩,
             ⟨(some 6), .take 25, none⟩])
          (.ret))
         (.skip))))))
    (.region false [⟨(some 26), .bin .add .prim (.tmp 16) (.const (.int .i64 1)), none⟩,
       ⟨(some 16), .mv (.tmp 26), none⟩])))
def c_model_each_api_Link__l0 : ACode := .loop c_model_each_api_Link__l0b
def c_model_each_api_Link__j1 : ACode :=
  .seq (.region false [⟨(some 6), .mv (.const (.int .i64 0)), none⟩])
  (.ret)
/-- simulator/model.each[simulator/api.Link] -/
def c_model_each_api_Link_ : ACode :=
  .seq (.region false [⟨(some 6), .mv (.const (.int .i64 0)), none⟩])
  (.seq (.seq (.region false [⟨(some 10), .mv (.tmp 0), none⟩,
       ⟨(some 11), .len .slice (.tmp 10), none⟩,
       ⟨(some 12), .mv (.tmp 1), none⟩,
       ⟨(some 13), .bin .gtr .prim (.tmp 11) (.tmp 12), none⟩])
    (.cond (.tmp 13) (.seq (.region false [⟨(some 6), .mv (.const (.int .i64 6)), none⟩])
      (.ret))
     (.skip)))
   (.seq (.seq (.region false [⟨(some 14), .mv (.tmp 0), none⟩,
        ⟨(some 15), .len .slice (.tmp 14), none⟩,
        ⟨(some 16), .mv (.const (.int .i64 0)), none⟩])
     (.block 0 (c_model_each_api_Link__l0)))
    c_model_each_api_Link__j1))
def a_model_each_api_Link_ : AFn := ⟨27, [.tmp 6], c_model_each_api_Link_, false⟩
theorem t_model_each_api_Link_ : cFn Tryz.prog takesW Tryz.f102 = some a_model_each_api_Link_ := by kernel_rfl
theorem n_model_each_api_Link_ : (Tryz.f102.name == "runtime.NumGoroutine") = false := by kernel_rfl
/-- simulator/code.known -/
def c_code_known : ACode :=
  .seq (.region false [⟨(some 2), .mv (.const (.bool false)), none⟩])
  (.seq (.region false [⟨(some 3), .mv (.tmp 0), none⟩,
      ⟨(some 4), .bin .geq .prim (.tmp 3) (.const (.int .i64 1)), none⟩,
      ⟨(some 5), .mv (.tmp 4), none⟩,
      ⟨(some 6), .mv (.tmp 0), (some (5, true))⟩,
      ⟨(some 7), .bin .leq .prim (.tmp 6) (.const (.int .i64 19)), (some (5, true))⟩,
      ⟨(some 8), .pick (.tmp 5) (.tmp 7) (.const (.bool false)), none⟩,
      ⟨(some 2), .take 8, none⟩])
   (.ret))
def a_code_known : AFn := ⟨9, [.tmp 2], c_code_known, false⟩
theorem t_code_known : cFn Tryz.prog takesW Tryz.f105 = some a_code_known := by kernel_rfl
theorem n_code_known : (Tryz.f105.name == "runtime.NumGoroutine") = false := by kernel_rfl
/-- simulator/code.clean -/
def c_code_clean : ACode :=
  .seq (.region false [⟨(some 1), .box 109 20 (.tmp 0), none⟩,
     ⟨(some 2), .mv (.const (.bool false)), none⟩])
  (.seq (.region false [⟨(some 4), .ldc (.glob 0), none⟩,
      ⟨(some 5), .fa 0 (.tmp 1), none⟩,
      ⟨(some 6), .ldc (.tmp 5), none⟩,
      ⟨(some 7), .ia (.slice 9) (.tmp 4) (.tmp 6), none⟩,
      ⟨(some 8), .lda 9 (.tmp 7), none⟩,
      ⟨(some 3), .mk 167 [(.str []), (.int .i64 0), (.int .i64 0), (.bool false), (.bool false), (.bool false), (.bool false), (.bool false), (.bool false)], none⟩,
      ⟨none, .st 9 (.tmp 3) (.tmp 8), none⟩])
   (.seq (.region false [⟨(some 9), .fa 1 (.tmp 3), none⟩,
       ⟨(some 10), .ldc (.tmp 9), none⟩,
       ⟨(some 11), .bin .neq .prim (.tmp 10) (.const (.int .i64 0)), none⟩,
       ⟨(some 12), .mv (.tmp 11), none⟩,
       ⟨(some 13), .fa 1 (.tmp 1), (some (12, false))⟩,
       ⟨(some 14), .ldc (.tmp 13), (some (12, false))⟩,
       ⟨(some 15), .bin .eql .prim (.tmp 14) (.const (.int .i64 0)), (some (12, false))⟩,
       ⟨(some 16), .pick (.tmp 12) (.const (.bool true)) (.tmp 15), none⟩,
       ⟨(some 17), .mv (.tmp 16), none⟩,
       ⟨(some 18), .fa 2 (.tmp 3), (some (17, true))⟩,
       ⟨(some 19), .ldc (.tmp 18), (some (17, true))⟩,
       ⟨(some 20), .bin .neq .prim (.tmp 19) (.const (.int .i64 0)), (some (17, true))⟩,
       ⟨(some 21), .mv (.tmp 20), (some (17, true))⟩,
       ⟨(some 22), .fa 2 (.tmp 1), (some (21, false))⟩,
       ⟨(some 23), .ldc (.tmp 22), (some (21, false))⟩,
       ⟨(some 24), .bin .eql .prim (.tmp 23) (.const (.int .i64 0)), (some (21, false))⟩,
       ⟨(some 25), .pick (.tmp 21) (.const (.bool true)) (.tmp 24), (some (17, true))⟩,
       ⟨(some 26), .pick (.tmp 17) (.tmp 25) (.const (.bool false)), none⟩,
       ⟨(some 27), .mv (.tmp 26), none⟩,
       ⟨(some 28), .fa 3 (.tmp 3), (some (27, true))⟩,
       ⟨(some 29), .ldc (.tmp 28), (some (27, true))⟩,
       ⟨(some 30), .mv (.tmp 29), (some (27, true))⟩,
       ⟨(some 31), .fa 3 (.tmp 1), (some (30, false))⟩,
       ⟨(some 32), .ldc (.tmp 31), (some (30, false))⟩,
       ⟨(some 33), .bin .eql .prim (.tmp 32) (.const (.int .i64 0)), (some (30, false))⟩,
       ⟨(some 34), .pick (.tmp 30) (.const (.bool true)) (.tmp 33), (some (27, true))⟩,
       ⟨(some 35), .pick (.tmp 27) (.tmp 34) (.const (.bool false)), none⟩,
       ⟨(some 36), .mv (.tmp 35), none⟩,
       ⟨(some 37), .fa 4 (.tmp 3), (some (36, true))⟩,
       ⟨(some 38), .ldc (.tmp 37), (some (36, true))⟩,
       ⟨(some 39), .mv (.tmp 38), (some (36, true))⟩,
       ⟨(some 40), .fa 4 (.tmp 1), (some (39, false))⟩,
       ⟨(some 41), .lda 4 (.tmp 40), (some (39, false))⟩,
       ⟨(some 42), .call (.const (.fn 145 [] [])) [(.inr (.tmp 41))], (some (39, false))⟩,
       ⟨(some 43), .pick (.tmp 39) (.const (.bool true)) (.tmp 42), (some (36, true))⟩,
       ⟨(some 44), .pick (.tmp 36) (.tmp 43) (.const (.bool false)), none⟩,
       ⟨(some 45), .mv (.tmp 44), none⟩,
       ⟨(some 46), .fa 5 (.tmp 3), (some (45, true))⟩,
       ⟨(some 47), .ldc (.tmp 46), (some (45, true))⟩,
       ⟨(some 48), .mv (.tmp 47), (some (45, true))⟩,
       ⟨(some 49), .fa 8 (.tmp 1), (some (48, false))⟩,
       ⟨(some 50), .lda 4 (.tmp 49), (some (48, false))⟩,
       ⟨(some 51), .call (.const (.fn 145 [] [])) [(.inr (.tmp 50))], (some (48, false))⟩,
       ⟨(some 52), .pick (.tmp 48) (.const (.bool true)) (.tmp 51), (some (45, true))⟩,
       ⟨(some 53), .pick (.tmp 45) (.tmp 52) (.const (.bool false)), none⟩,
       ⟨(some 54), .mv (.tmp 53), none⟩,
       ⟨(some 55), .fa 6 (.tmp 3), (some (54, true))⟩,
       ⟨(some 56), .ldc (.tmp 55), (some (54, true))⟩,
       ⟨(some 57), .mv (.tmp 56), (some (54, true))⟩,
       ⟨(some 58), .fa 12 (.tmp 1), (some (57, false))⟩,
       ⟨(some 59), .ldc (.tmp 58), (some (57, false))⟩,
       ⟨(some 60), .len .slice (.tmp 59), (some (57, false))⟩,
       ⟨(some 61), .bin .eql .prim (.tmp 60) (.const (.int .i64 0)), (some (57, false))⟩,
       ⟨(some 62), .pick (.tmp 57) (.const (.bool true)) (.tmp 61), (some (54, true))⟩,
       ⟨(some 63), .pick (.tmp 54) (.tmp 62) (.const (.bool false)), none⟩,
       ⟨(some 64), .mv (.tmp 63), none⟩,
       ⟨(some 65), .fa 7 (.tmp 3), (some (64, true))⟩,
       ⟨(some 66), .ldc (.tmp 65), (some (64, true))⟩,
       ⟨(some 67), .mv (.tmp 66), (some (64, true))⟩,
       ⟨(some 68), .fa 13 (.tmp 1), (some (67, false))⟩,
       ⟨(some 69), .lda 6 (.tmp 68), (some (67, false))⟩,
       ⟨(some 70), .build [(.int .i64 0), (.int .i64 0), (.int .i64 0), (.int .i64 0), (.own 1 []), (.own 1 [])] [], (some (67, false))⟩,
       ⟨(some 71), .call (.const (.fn 132 [] [])) [(.inr (.tmp 69)), (.inr (.tmp 70))], (some (67, false))⟩,
       ⟨(some 72), .pick (.tmp 67) (.const (.bool true)) (.tmp 71), (some (64, true))⟩,
       ⟨(some 73), .pick (.tmp 64) (.tmp 72) (.const (.bool false)), none⟩,
       ⟨(some 74), .mv (.tmp 73), none⟩,
       ⟨(some 75), .fa 8 (.tmp 3), (some (74, true))⟩,
       ⟨(some 76), .ldc (.tmp 75), (some (74, true))⟩,
       ⟨(some 77), .mv (.tmp 76), (some (74, true))⟩,
       ⟨(some 78), .fa 19 (.tmp 1), (some (77, false))⟩,
       ⟨(some 79), .ldc (.tmp 78), (some (77, false))⟩,
       ⟨(some 80), .un .not (.tmp 79), (some (77, false))⟩,
       ⟨(some 81), .pick (.tmp 77) (.const (.bool true)) (.tmp 80), (some (74, true))⟩,
       ⟨(some 82), .pick (.tmp 74) (.tmp 81) (.const (.bool false)), none⟩,
       ⟨(some 2), .take 82, none⟩])
    (.ret)))
def a_code_clean : AFn := ⟨83, [.tmp 2], c_code_clean, false⟩
theorem t_code_clean : cFn Tryz.prog takesW Tryz.f106 = some a_code_clean := by kernel_rfl
theorem n_code_clean : (Tryz.f106.name == "runtime.NumGoroutine") = false := by kernel_rfl
/-- (simulator/code.place).has -/
def c__code_place__has : ACode :=
  .seq (.region false [⟨(some 4), .box 99 8 (.tmp 0), none⟩,
     ⟨(some 8), .mv (.const (.bool false)), none⟩])
  (.seq (.region false [⟨(some 9), .mv (.tmp 2), none⟩,
      ⟨(some 10), .bin .geq .prim (.tmp 9) (.const (.int .i64 0)), none⟩,
      ⟨(some 11), .mv (.tmp 10), none⟩,
      ⟨(some 12), .mv (.tmp 2), (some (11, true))⟩,
      ⟨(some 13), .lda 8 (.tmp 4), (some (11, true))⟩,
      ⟨(some 14), .mv (.tmp 1), (some (11, true))⟩,
      ⟨(some 15), .mv (.tmp 3), (some (11, true))⟩,
      ⟨(some 16), .call (.const (.fn 146 [] [])) [(.inr (.tmp 13)), (.inr (.tmp 14)), (.inr (.tmp 15))], (some (11, true))⟩,
      ⟨(some 17), .bin .lss .prim (.tmp 12) (.tmp 16), (some (11, true))⟩,
      ⟨(some 18), .pick (.tmp 11) (.tmp 17) (.const (.bool false)), none⟩,
      ⟨(some 8), .take 18, none⟩])
   (.ret))
def a__code_place__has : AFn := ⟨19, [.tmp 8], c__code_place__has, false⟩
theorem t__code_place__has : cFn Tryz.prog takesW Tryz.f107 = some a__code_place__has := by kernel_rfl
theorem n__code_place__has : (Tryz.f107.name == "runtime.NumGoroutine") = false := by kernel_rfl
/-- simulator/code.Arc -/
def c_code_Arc : ACode :=
  .seq (.region false [⟨(some 3), .box 25 3 (.tmp 0), none⟩,
     ⟨(some 4), .box 3 1 (.tmp 1), none⟩,
     ⟨(some 5), .box 3 1 (.tmp 2), none⟩,
     ⟨(some 6), .mv (.const (.int .i64 0)), none⟩,
     ⟨(some 7), .mv (.const (.bool false)), none⟩])
  (.seq (.region false [⟨(some 9), .fa 2 (.tmp 3), none⟩,
      ⟨(some 10), .ldc (.tmp 9), none⟩,
      ⟨(some 11), .mkfn 148 [] [(.tmp 4), (.tmp 5)], none⟩,
      ⟨(some 12), .call (.const (.fn 147 [] [])) [(.inr (.tmp 10)), (.inr (.tmp 11))], none⟩,
      ⟨(some 8), .take 12, none⟩])
   (.seq (.seq (.region false [⟨(some 13), .mv (.tmp 8), none⟩,
        ⟨(some 14), .bin .lss .prim (.tmp 13) (.const (.int .i64 0)), none⟩])
     (.cond (.tmp 14) (.seq (.region false [⟨(some 6), .mv (.const (.int .i64 0)), none⟩,
          ⟨(some 7), .mv (.const (.bool false)), none⟩])
       (.ret))
      (.skip)))
    (.seq (.region false [⟨(some 15), .fa 2 (.tmp 3), none⟩,
        ⟨(some 16), .ldc (.tmp 15), none⟩,
        ⟨(some 17), .mv (.tmp 8), none⟩,
        ⟨(some 18), .ia (.slice 3) (.tmp 16) (.tmp 17), none⟩,
        ⟨(some 19), .fa 2 (.tmp 18), none⟩,
        ⟨(some 20), .ldt (.tmp 19), none⟩,
        ⟨(some 6), .take 20, none⟩,
        ⟨(some 7), .mv (.const (.bool true)), none⟩])
     (.ret))))
def a_code_Arc : AFn := ⟨21, [.tmp 6, .tmp 7], c_code_Arc, false⟩
theorem t_code_Arc : cFn Tryz.prog takesW Tryz.f108 = some a_code_Arc := by kernel_rfl
theorem n_code_Arc : (Tryz.f108.name == "runtime.NumGoroutine") = false := by kernel_rfl
def c_code_expressions_j1 : ACode :=
  .seq (.seq (.region false [⟨(some 28), .fa 6 (.tmp 4), none⟩,
      ⟨(some 29), .ldc (.tmp 28), none⟩])
   (.cond (.tmp 29) (.region false [⟨(some 30), .take 3, none⟩,
       ⟨(some 31), .fa 12 (.tmp 1), none⟩,
       ⟨(some 32), .ldc (.tmp 31), none⟩,
       ⟨(some 33), .app 4 56 30 (.tmp 32), none⟩,
       ⟨(some 3), .take 33, none⟩])
    (.skip)))
  (.seq (.region false [⟨(some 34), .take 3, none⟩,
      ⟨(some 2), .take 34, none⟩])
   (.ret))
def c_code_expressions_j0 : ACode :=
  .seq (.seq (.region false [⟨(some 21), .fa 5 (.tmp 4), none⟩,
      ⟨(some 22), .ldc (.tmp 21), none⟩])
   (.cond (.tmp 22) (.region false [⟨(some 23), .take 3, none⟩,
       ⟨(some 24), .fa 8 (.tmp 1), none⟩,
       ⟨(some 25), .lda 4 (.tmp 24), none⟩,
       ⟨(some 26), .lit 104 4 [(.tmp 25)], none⟩,
       ⟨(some 27), .app 4 56 23 (.tmp 26), none⟩,
       ⟨(some 3), .take 27, none⟩])
    (.skip)))
  c_code_expressions_j1
/-- simulator/code.expressions -/
def c_code_expressions : ACode :=
  .seq (.region false [⟨(some 1), .box 109 20 (.tmp 0), none⟩,
     ⟨(some 2), .mv (.const (.own 4 [])), none⟩])
  (.seq (.region false [⟨(some 3), .mv (.const (.own 4 [])), none⟩])
   (.seq (.seq (.region false [⟨(some 5), .fa 0 (.tmp 1), none⟩,
        ⟨(some 6), .ldc (.tmp 5), none⟩,
        ⟨(some 7), .call (.const (.fn 105 [] [])) [(.inr (.tmp 6))], none⟩,
        ⟨(some 8), .un .not (.tmp 7), none⟩])
     (.cond (.tmp 8) (.seq (.region false [⟨(some 2), .mv (.const (.own 4 [])), none⟩])
       (.ret))
      (.skip)))
    (.seq (.region false [⟨(some 9), .ldc (.glob 0), none⟩,
        ⟨(some 10), .fa 0 (.tmp 1), none⟩,
        ⟨(some 11), .ldc (.tmp 10), none⟩,
        ⟨(some 12), .ia (.slice 9) (.tmp 9) (.tmp 11), none⟩,
        ⟨(some 13), .lda 9 (.tmp 12), none⟩,
        ⟨(some 4), .mk 167 [(.str []), (.int .i64 0), (.int .i64 0), (.bool false), (.bool false), (.bool false), (.bool false), (.bool false), (.bool false)], none⟩,
        ⟨none, .st 9 (.tmp 4) (.tmp 13), none⟩])
     (.seq (.seq (.region false [⟨(some 14), .fa 4 (.tmp 4), none⟩,
          ⟨(some 15), .ldc (.tmp 14), none⟩])
       (.cond (.tmp 15) (.region false [⟨(some 16), .take 3, none⟩,
           ⟨(some 17), .fa 4 (.tmp 1), none⟩,
           ⟨(some 18), .lda 4 (.tmp 17), none⟩,
           ⟨(some 19), .lit 104 4 [(.tmp 18)], none⟩,
           ⟨(some 20), .app 4 56 16 (.tmp 19), none⟩,
           ⟨(some 3), .take 20, none⟩])
        (.skip)))
      c_code_expressions_j0))))
def a_code_expressions : AFn := ⟨35, [.tmp 2], c_code_expressions, false⟩
theorem t_code_expressions : cFn Tryz.prog takesW Tryz.f109 = some a_code_expressions := by kernel_rfl
theorem n_code_expressions : (Tryz.f109.name == "runtime.NumGoroutine") = false := by kernel_rfl
/-- simulator/expr.CheckCode -/
def c_expr_CheckCode : ACode :=
  .seq (.region false [⟨(some 1), .box 104 4 (.tmp 0), none⟩,
     ⟨(some 2), .mv (.const (.int .i64 0)), none⟩])
  (.seq (.region false [⟨(some 3), .build [(.bool false)] [(0, 1, (.const (.bool true)))], none⟩,
      ⟨(some 4), .lda 4 (.tmp 1), none⟩,
      ⟨(some 5), .call (.const (.fn 149 [] [])) [(.inr (.tmp 3)), (.inr (.tmp 4))], none⟩,
      ⟨(some 2), .take 5, none⟩])
   (.ret))
def a_expr_CheckCode : AFn := ⟨6, [.tmp 2], c_expr_CheckCode, false⟩
theorem t_expr_CheckCode : cFn Tryz.prog takesW Tryz.f110 = some a_expr_CheckCode := by kernel_rfl
theorem n_expr_CheckCode : (Tryz.f110.name == "runtime.NumGoroutine") = false := by kernel_rfl
def c__code_place__sees_j0 : ACode :=
  .seq (.region false [⟨(some 42), .mv (.tmp 5), none⟩,
     ⟨(some 43), .mv (.tmp 42), none⟩,
     ⟨(some 44), .fa 3 (.tmp 3), (some (43, true))⟩,
     ⟨(some 45), .ldc (.tmp 44), (some (43, true))⟩,
     ⟨(some 46), .mkfn 151 [] [(.tmp 2)], (some (43, true))⟩,
     ⟨(some 47), .call (.const (.fn 150 [] [])) [(.inr (.tmp 45)), (.inr (.tmp 46))], (some (43, true))⟩,
     ⟨(some 48), .un .not (.tmp 47), (some (43, true))⟩,
     ⟨(some 49), .pick (.tmp 43) (.tmp 48) (.const (.bool false)), none⟩,
     ⟨(some 4), .take 49, none⟩])
  (.ret)
/-- (simulator/code.place).sees -/
def c__code_place__sees : ACode :=
  .seq (.region false [⟨(some 2), .box 99 8 (.tmp 0), none⟩,
     ⟨(some 3), .box 104 4 (.tmp 1), none⟩,
     ⟨(some 4), .mv (.const (.bool false)), none⟩])
  (.seq (.region false [⟨(some 5), .mv (.const (.bool true)), none⟩])
   (.seq (.seq (.region false [⟨(some 6), .fa 0 (.tmp 3), none⟩,
        ⟨(some 7), .ldc (.tmp 6), none⟩])
     (.block 0 (.seq (.region false [⟨(some 9), .bin .eql .prim (.tmp 7) (.const (.int .i64 25)), none⟩,
          ⟨(some 8), .take 9, none⟩])
       (.cond (.tmp 8) (.region false [⟨(some 10), .lda 8 (.tmp 2), none⟩,
           ⟨(some 11), .fa 2 (.tmp 3), none⟩,
           ⟨(some 12), .ldc (.tmp 11), none⟩,
           ⟨(some 13), .call (.const (.fn 107 [] [])) [(.inr (.tmp 10)), (.inr (.const (.int .i64 1))), (.inr (.tmp 12)), (.inr (.const (.int .i64 0)))], none⟩,
           ⟨(some 5), .take 13, none⟩])
        (.seq (.region false [⟨(some 15), .bin .eql .prim (.tmp 7) (.const (.int .i64 26)), none⟩,
            ⟨(some 14), .take 15, none⟩])
         (.cond (.tmp 14) (.region false [⟨(some 16), .lda 8 (.tmp 2), none⟩,
             ⟨(some 17), .fa 2 (.tmp 3), none⟩,
             ⟨(some 18), .ldc (.tmp 17), none⟩,
             ⟨(some 19), .call (.const (.fn 107 [] [])) [(.inr (.tmp 16)), (.inr (.const (.int .i64 2))), (.inr (.tmp 18)), (.inr (.const (.int .i64 0)))], none⟩,
             ⟨(some 5), .take 19, none⟩])
          (.seq (.region false [⟨(some 21), .bin .eql .prim (.tmp 7) (.const (.int .i64 22)), none⟩,
              ⟨(some 20), .take 21, none⟩])
           (.cond (.tmp 20) (.region false [⟨(some 22), .lda 8 (.tmp 2), none⟩,
               ⟨(some 23), .fa 2 (.tmp 3), none⟩,
               ⟨(some 24), .ldc (.tmp 23), none⟩,
               ⟨(some 25), .call (.const (.fn 107 [] [])) [(.inr (.tmp 22)), (.inr (.const (.int .i64 5))), (.inr (.tmp 24)), (.inr (.const (.int .i64 0)))], none⟩,
               ⟨(some 5), .take 25, none⟩])
            (.seq (.region false [⟨(some 27), .bin .eql .prim (.tmp 7) (.const (.int .i64 23)), none⟩,
                ⟨(some 26), .take 27, none⟩])
             (.cond (.tmp 26) (.region false [⟨(some 28), .lda 8 (.tmp 2), none⟩,
                 ⟨(some 29), .fa 2 (.tmp 3), none⟩,
                 ⟨(some 30), .ldc (.tmp 29), none⟩,
                 ⟨(some 31), .call (.const (.fn 107 [] [])) [(.inr (.tmp 28)), (.inr (.const (.int .i64 6))), (.inr (.tmp 30)), (.inr (.const (.int .i64 0)))], none⟩,
                 ⟨(some 5), .take 31, none⟩])
              (.seq (.region false [⟨(some 33), .bin .eql .prim (.tmp 7) (.const (.int .i64 24)), none⟩,
                  ⟨(some 32), .take 33, none⟩])
               (.cond (.tmp 32) (.region true [⟨(some 34), .fa 2 (.tmp 3), none⟩,
                   ⟨(some 35), .ldc (.tmp 34), none⟩,
                   ⟨(some 36), .lda 8 (.tmp 2), none⟩,
                   ⟨(some 37), .call (.const (.fn 146 [] [])) [(.inr (.tmp 36)), (.inr (.const (.int .i64 5))), (.inr (.const (.int .i64 0)))], none⟩,
                   ⟨(some 38), .lda 8 (.tmp 2), none⟩,
                   ⟨(some 39), .call (.const (.fn 146 [] [])) [(.inr (.tmp 38)), (.inr (.const (.int .i64 8))), (.inr (.const (.int .i64 0)))], none⟩,
                   ⟨(some 40), .bin .add .prim (.tmp 37) (.tmp 39), none⟩,
                   ⟨(some 41), .bin .lss .prim (.tmp 35) (.tmp 40), none⟩,
                   ⟨(some 5), .mv (.tmp 41), none⟩])
                (.skip)))))))))))))
    c__code_place__sees_j0))
def a__code_place__sees : AFn := ⟨50, [.tmp 4], c__code_place__sees, false⟩
theorem t__code_place__sees : cFn Tryz.prog takesW Tryz.f111 = some a__code_place__sees := by kernel_rfl
theorem n__code_place__sees : (Tryz.f111.name == "runtime.NumGoroutine") = false := by kernel_rfl
/-- simulator/dist.Check -/
def c_dist_Check : ACode :=
  .seq (.region false [⟨(some 1), .box 107 6 (.tmp 0), none⟩,
     ⟨(some 2), .mv (.const (.int .i64 0)), none⟩])
  (.seq (.seq (.region false [⟨(some 5), .lda 6 (.tmp 1), none⟩,
       ⟨(some 6), .call (.const (.fn 152 [] [])) [(.inr (.tmp 5))], none⟩,
       ⟨(some 7), .un .not (.tmp 6), none⟩])
    (.cond (.tmp 7) (.seq (.region false [⟨(some 2), .mv (.const (.int .i64 1)), none⟩])
      (.ret))
     (.skip)))
   (.seq (.region false [⟨(some 3), .mv (.const (.bool false)), none⟩])
    (.seq (.seq (.region false [⟨(some 8), .fa 0 (.tmp 1), none⟩,
         ⟨(some 9), .ldc (.tmp 8), none⟩])
      (.block 0 (.seq (.region false [⟨(some 11), .bin .eql .prim (.tmp 9) (.const (.int .i64 1)), none⟩,
           ⟨(some 10), .take 11, none⟩])
        (.cond (.tmp 10) (.region false [⟨(some 12), .fa 1 (.tmp 1), none⟩,
            ⟨(some 13), .ldc (.tmp 12), none⟩,
            ⟨(some 14), .lit 3 1 [(.tmp 13)], none⟩,
            ⟨(some 15), .call (.const (.fn 153 [] [])) [(.inr (.const (.int .i64 0))), (.inr (.const (.int .i64 1000000000))), (.inr (.tmp 14))], none⟩,
            ⟨(some 3), .take 15, none⟩])
         (.seq (.region false [⟨(some 17), .bin .eql .prim (.tmp 9) (.const (.int .i64 2)), none⟩,
             ⟨(some 16), .take 17, none⟩])
          (.cond (.tmp 16) (.region false [⟨(some 18), .fa 1 (.tmp 1), none⟩,
              ⟨(some 19), .ldc (.tmp 18), none⟩,
              ⟨(some 20), .fa 2 (.tmp 1), none⟩,
              ⟨(some 21), .ldc (.tmp 20), none⟩,
              ⟨(some 22), .lit 3 1 [(.tmp 19), (.tmp 21)], none⟩,
              ⟨(some 23), .call (.const (.fn 153 [] [])) [(.inr (.const (.int .i64 0))), (.inr (.const (.int .i64 1000000000))), (.inr (.tmp 22))], none⟩,
              ⟨(some 24), .mv (.tmp 23), none⟩,
              ⟨(some 25), .fa 1 (.tmp 1), (some (24, true))⟩,
              ⟨(some 26), .ldc (.tmp 25), (some (24, true))⟩,
              ⟨(some 27), .fa 2 (.tmp 1), (some (24, true))⟩,
              ⟨(some 28), .ldc (.tmp 27), (some (24, true))⟩,
              ⟨(some 29), .bin .leq .prim (.tmp 26) (.tmp 28), (some (24, true))⟩,
              ⟨(some 30), .pick (.tmp 24) (.tmp 29) (.const (.bool false)), none⟩,
              ⟨(some 3), .take 30, none⟩])
           (.seq (.region false [⟨(some 32), .bin .eql .prim (.tmp 9) (.const (.int .i64 4)), none⟩,
               ⟨(some 31), .take 32, none⟩])
            (.cond (.tmp 31) (.region false [⟨(some 33), .fa 3 (.tmp 1), none⟩,
                ⟨(some 34), .ldc (.tmp 33), none⟩,
                ⟨(some 35), .lit 3 1 [(.tmp 34)], none⟩,
                ⟨(some 36), .call (.const (.fn 153 [] [])) [(.inr (.const (.int .i64 1))), (.inr (.const (.int .i64 20))), (.inr (.tmp 35))], none⟩,
                ⟨(some 37), .mv (.tmp 36), none⟩,
                ⟨(some 38), .fa 1 (.tmp 1), (some (37, true))⟩,
                ⟨(some 39), .ldc (.tmp 38), (some (37, true))⟩,
                ⟨(some 40), .fa 2 (.tmp 1), (some (37, true))⟩,
                ⟨(some 41), .ldc (.tmp 40), (some (37, true))⟩,
                ⟨(some 42), .lit 3 1 [(.tmp 39), (.tmp 41)], (some (37, true))⟩,
                ⟨(some 43), .call (.const (.fn 153 [] [])) [(.inr (.const (.int .i64 0))), (.inr (.const (.int .i64 1000000))), (.inr (.tmp 42))], (some (37, true))⟩,
                ⟨(some 44), .pick (.tmp 37) (.tmp 43) (.const (.bool false)), none⟩,
                ⟨(some 45), .mv (.tmp 44), none⟩,
                ⟨(some 46), .fa 1 (.tmp 1), (some (45, true))⟩,
                ⟨(some 47), .ldc (.tmp 46), (some (45, true))⟩,
                ⟨(some 48), .fa 2 (.tmp 1), (some (45, true))⟩,
                ⟨(some 49), .ldc (.tmp 48), (some (45, true))⟩,
                ⟨(some 50), .bin .leq .prim (.tmp 47) (.tmp 49), (some (45, true))⟩,
                ⟨(some 51), .pick (.tmp 45) (.tmp 50) (.const (.bool false)), none⟩,
                ⟨(some 3), .take 51, none⟩])
             (.seq (.region false [⟨(some 53), .bin .eql .prim (.tmp 9) (.const (.int .i64 5)), none⟩,
                 ⟨(some 52), .take 53, none⟩])
              (.cond (.tmp 52) (.region false [⟨(some 54), .fa 1 (.tmp 1), none⟩,
                  ⟨(some 55), .ldc (.tmp 54), none⟩,
                  ⟨(some 56), .fa 2 (.tmp 1), none⟩,
                  ⟨(some 57), .ldc (.tmp 56), none⟩,
                  ⟨(some 58), .lit 3 1 [(.tmp 55), (.tmp 57)], none⟩,
                  ⟨(some 59), .call (.const (.fn 153 [] [])) [(.inr (.const (.int .i64 1))), (.inr (.const (.int .i64 1000))), (.inr (.tmp 58))], none⟩,
                  ⟨(some 3), .take 59, none⟩])
               (.seq (.region false [⟨(some 61), .bin .eql .prim (.tmp 9) (.const (.int .i64 3)), none⟩,
                   ⟨(some 60), .take 61, none⟩])
                (.cond (.tmp 60) (.seq (.seq (.region false [⟨(some 62), .fa 4 (.tmp 1), none⟩,
                      ⟨(some 63), .ldc (.tmp 62), none⟩,
                      ⟨(some 64), .len .slice (.tmp 63), none⟩,
                      ⟨(some 4), .take 64, none⟩])
                   (.block 1 (.seq (.region false [⟨(some 66), .mv (.tmp 4), none⟩,
                        ⟨(some 67), .fa 5 (.tmp 1), none⟩,
                        ⟨(some 68), .ldc (.tmp 67), none⟩,
                        ⟨(some 69), .len .slice (.tmp 68), none⟩,
                        ⟨(some 70), .bin .neq .prim (.tmp 66) (.tmp 69), none⟩,
                        ⟨(some 65), .take 70, none⟩])
                     (.cond (.tmp 65) (.seq (.region false [⟨(some 2), .mv (.const (.int .i64 8)), none⟩])
                       (.ret))
                      (.seq (.region false [⟨(some 72), .mv (.tmp 4), none⟩,
                          ⟨(some 73), .bin .eql .prim (.tmp 72) (.const (.int .i64 0)), none⟩,
                          ⟨(some 71), .take 73, none⟩])
                       (.cond (.tmp 71) (.seq (.region false [⟨(some 2), .mv (.const (.int .i64 7)), none⟩])
                         (.ret))
                        (.seq (.region false [⟨(some 75), .mv (.tmp 4), none⟩,
                            ⟨(some 76), .bin .gtr .prim (.tmp 75) (.const (.int .i64 20)), none⟩,
                            ⟨(some 74), .take 76, none⟩])
                         (.cond (.tmp 74) (.seq (.region false [⟨(some 2), .mv (.const (.int .i64 6)), none⟩])
                           (.ret))
                          (.skip)))))))))
                  (.region false [⟨(some 77), .fa 4 (.tmp 1), none⟩,
                     ⟨(some 78), .ldc (.tmp 77), none⟩,
                     ⟨(some 79), .call (.const (.fn 153 [] [])) [(.inr (.const (.int .i64 0))), (.inr (.const (.int .i64 1000000000))), (.inr (.tmp 78))], none⟩,
                     ⟨(some 80), .mv (.tmp 79), none⟩,
                     ⟨(some 81), .fa 5 (.tmp 1), (some (80, true))⟩,
                     ⟨(some 82), .ldc (.tmp 81), (some (80, true))⟩,
                     ⟨(some 83), .call (.const (.fn 153 [] [])) [(.inr (.const (.int .i64 1))), (.inr (.const (.int .i64 1000))), (.inr (.tmp 82))], (some (80, true))⟩,
                     ⟨(some 84), .pick (.tmp 80) (.tmp 83) (.const (.bool false)), none⟩,
                     ⟨(some 3), .take 84, none⟩]))
                 (.skip)))))))))))))
     (.seq (.seq (.region false [⟨(some 85), .mv (.tmp 3), none⟩,
          ⟨(some 86), .un .not (.tmp 85), none⟩])
       (.cond (.tmp 86) (.seq (.region false [⟨(some 2), .mv (.const (.int .i64 2)), none⟩])
         (.ret))
        (.skip)))
      (.seq (.region false [⟨(some 2), .mv (.const (.int .i64 0)), none⟩])
       (.ret))))))
def a_dist_Check : AFn := ⟨87, [.tmp 2], c_dist_Check, false⟩
theorem t_dist_Check : cFn Tryz.prog takesW Tryz.f112 = some a_dist_Check := by kernel_rfl
theorem n_dist_Check : (Tryz.f112.name == "runtime.NumGoroutine") = false := by kernel_rfl
/-- simulator/model.known -/
def c_model_known : ACode :=
  .seq (.region false [⟨(some 2), .mv (.const (.bool false)), none⟩])
  (.seq (.region false [⟨(some 3), .mv (.tmp 0), none⟩,
      ⟨(some 4), .bin .geq .prim (.tmp 3) (.const (.int .i64 1)), none⟩,
      ⟨(some 5), .mv (.tmp 4), none⟩,
      ⟨(some 6), .mv (.tmp 0), (some (5, true))⟩,
      ⟨(some 7), .bin .leq .prim (.tmp 6) (.const (.int .i64 3)), (some (5, true))⟩,
      ⟨(some 8), .pick (.tmp 5) (.tmp 7) (.const (.bool false)), none⟩,
      ⟨(some 2), .take 8, none⟩])
   (.ret))
def a_model_known : AFn := ⟨9, [.tmp 2], c_model_known, false⟩
theorem t_model_known : cFn Tryz.prog takesW Tryz.f130 = some a_model_known := by kernel_rfl
theorem n_model_known : (Tryz.f130.name == "runtime.NumGoroutine") = false := by kernel_rfl
/-- simulator/model.fits -/
def c_model_fits : ACode :=
  .seq (.region false [⟨(some 4), .mv (.const (.bool false)), none⟩])
  (.seq (.seq (.region false [⟨(some 5), .mv (.tmp 0), none⟩])
    (.block 0 (.seq (.region false [⟨(some 7), .bin .eql .prim (.tmp 5) (.const (.int .i64 1)), none⟩,
         ⟨(some 6), .take 7, none⟩])
      (.cond (.tmp 6) (.seq (.region false [⟨(some 8), .mv (.tmp 1), none⟩,
           ⟨(some 9), .call (.const (.fn 142 [] [])) [(.inr (.tmp 8))], none⟩,
           ⟨(some 4), .take 9, none⟩])
        (.ret))
       (.seq (.region false [⟨(some 11), .bin .eql .prim (.tmp 5) (.const (.int .i64 2)), none⟩,
           ⟨(some 10), .take 11, none⟩])
        (.cond (.tmp 10) (.seq (.region false [⟨(some 12), .mv (.tmp 1), none⟩,
             ⟨(some 13), .bin .eql .prim (.tmp 12) (.const (.int .i64 0)), none⟩,
             ⟨(some 14), .mv (.tmp 13), none⟩,
             ⟨(some 15), .mv (.tmp 1), (some (14, false))⟩,
             ⟨(some 16), .bin .eql .prim (.tmp 15) (.const (.int .i64 1)), (some (14, false))⟩,
             ⟨(some 17), .pick (.tmp 14) (.const (.bool true)) (.tmp 16), none⟩,
             ⟨(some 4), .take 17, none⟩])
          (.ret))
         (.seq (.region false [⟨(some 19), .bin .eql .prim (.tmp 5) (.const (.int .i64 3)), none⟩,
             ⟨(some 18), .take 19, none⟩])
          (.cond (.tmp 18) (.seq (.region false [⟨(some 20), .mv (.tmp 1), none⟩,
               ⟨(some 21), .call (.const (.fn 78 [] [])) [(.inr (.tmp 20)), (.inr (.const (.int .i64 0))), (.inr (.const (.int .i64 1000000000)))], none⟩,
               ⟨(some 4), .take 21, none⟩])
            (.ret))
           (.skip)))))))))
   (.seq (.region false [⟨(some 4), .mv (.const (.bool false)), none⟩])
    (.ret)))
def a_model_fits : AFn := ⟨22, [.tmp 4], c_model_fits, false⟩
theorem t_model_fits : cFn Tryz.prog takesW Tryz.f131 = some a_model_fits := by kernel_rfl
theorem n_model_fits : (Tryz.f131.name == "runtime.NumGoroutine") = false := by kernel_rfl
/-- simulator/model.site$1 -/
def c_model_site_1 : ACode :=
  .seq (.region false [⟨(some 3), .mv (.const (.int .i64 0)), none⟩])
  (.seq (.region false [⟨(some 4), .mv (.tmp 0), none⟩,
      ⟨(some 5), .ldc (.tmp 1), none⟩,
      ⟨(some 6), .mkfn 52 [(.tmp 5)] [], none⟩,
      ⟨(some 7), .call (.const (.fn 72 [] [])) [(.inr (.tmp 4)), (.inr (.const (.int .i64 32))), (.inr (.tmp 6))], none⟩,
      ⟨(some 3), .take 7, none⟩])
   (.ret))
def a_model_site_1 : AFn := ⟨8, [.tmp 3], c_model_site_1, false⟩
theorem t_model_site_1 : cFn Tryz.prog takesW Tryz.f71 = some a_model_site_1 := by kernel_rfl
theorem n_model_site_1 : (Tryz.f71.name == "runtime.NumGoroutine") = false := by kernel_rfl
/-- simulator/model.site$2 -/
def c_model_site_2 : ACode :=
  .seq (.region false [⟨(some 2), .mv (.const (.int .i64 0)), none⟩])
  (.seq (.region false [⟨(some 3), .ldc (.tmp 0), none⟩,
      ⟨(some 4), .fa 1 (.tmp 1), none⟩,
      ⟨(some 5), .ldc (.tmp 4), none⟩,
      ⟨(some 6), .call (.const (.fn 49 [] [])) [(.inr (.tmp 3)), (.inr (.tmp 5))], none⟩,
      ⟨(some 2), .take 6, none⟩])
   (.ret))
def a_model_site_2 : AFn := ⟨7, [.tmp 2], c_model_site_2, false⟩
theorem t_model_site_2 : cFn Tryz.prog takesW Tryz.f74 = some a_model_site_2 := by kernel_rfl
theorem n_model_site_2 : (Tryz.f74.name == "runtime.NumGoroutine") = false := by kernel_rfl
/-- simulator/model.site$3 -/
def c_model_site_3 : ACode :=
  .seq (.region false [⟨(some 2), .mv (.const (.int .i64 0)), none⟩])
  (.seq (.region false [⟨(some 3), .fa 2 (.tmp 0), none⟩,
      ⟨(some 4), .ldc (.tmp 3), none⟩,
      ⟨(some 5), .mkfn 77 [] [(.tmp 1), (.tmp 0)], none⟩,
      ⟨(some 6), .call (.const (.fn 76 [] [])) [(.inr (.tmp 4)), (.inr (.const (.int .i64 32))), (.inr (.tmp 5))], none⟩,
      ⟨(some 2), .take 6, none⟩])
   (.ret))
def a_model_site_3 : AFn := ⟨7, [.tmp 2], c_model_site_3, false⟩
theorem t_model_site_3 : cFn Tryz.prog takesW Tryz.f75 = some a_model_site_3 := by kernel_rfl
theorem n_model_site_3 : (Tryz.f75.name == "runtime.NumGoroutine") = false := by kernel_rfl
/-- simulator/model.site$4 -/
def c_model_site_4 : ACode :=
  .seq (.region false [⟨(some 2), .mv (.const (.int .i64 0)), none⟩])
  (.seq (.region false [⟨(some 3), .fa 3 (.tmp 0), none⟩,
      ⟨(some 4), .ldc (.tmp 3), none⟩,
      ⟨(some 5), .mkfn 83 [] [(.tmp 1)], none⟩,
      ⟨(some 6), .call (.const (.fn 82 [] [])) [(.inr (.tmp 4)), (.inr (.const (.int .i64 32))), (.inr (.tmp 5))], none⟩,
      ⟨(some 2), .take 6, none⟩])
   (.ret))
def a_model_site_4 : AFn := ⟨7, [.tmp 2], c_model_site_4, false⟩
theorem t_model_site_4 : cFn Tryz.prog takesW Tryz.f81 = some a_model_site_4 := by kernel_rfl
theorem n_model_site_4 : (Tryz.f81.name == "runtime.NumGoroutine") = false := by kernel_rfl
/-- simulator/model.site$5 -/
def c_model_site_5 : ACode :=
  .seq (.region false [⟨(some 2), .mv (.const (.int .i64 0)), none⟩])
  (.seq (.region false [⟨(some 3), .fa 4 (.tmp 0), none⟩,
      ⟨(some 4), .ldc (.tmp 3), none⟩,
      ⟨(some 5), .mkfn 86 [] [(.tmp 1)], none⟩,
      ⟨(some 6), .call (.const (.fn 85 [] [])) [(.inr (.tmp 4)), (.inr (.const (.int .i64 32))), (.inr (.tmp 5))], none⟩,
      ⟨(some 2), .take 6, none⟩])
   (.ret))
def a_model_site_5 : AFn := ⟨7, [.tmp 2], c_model_site_5, false⟩
theorem t_model_site_5 : cFn Tryz.prog takesW Tryz.f84 = some a_model_site_5 := by kernel_rfl
theorem n_model_site_5 : (Tryz.f84.name == "runtime.NumGoroutine") = false := by kernel_rfl
/-- simulator/model.site$6 -/
def c_model_site_6 : ACode :=
  .seq (.region false [⟨(some 2), .mv (.const (.int .i64 0)), none⟩])
  (.seq (.region false [⟨(some 3), .ldc (.tmp 0), none⟩,
      ⟨(some 4), .fa 5 (.tmp 1), none⟩,
      ⟨(some 5), .ldc (.tmp 4), none⟩,
      ⟨(some 6), .call (.tmp 3) [(.inr (.tmp 5))], none⟩,
      ⟨(some 2), .take 6, none⟩])
   (.ret))
def a_model_site_6 : AFn := ⟨7, [.tmp 2], c_model_site_6, false⟩
theorem t_model_site_6 : cFn Tryz.prog takesW Tryz.f87 = some a_model_site_6 := by kernel_rfl
theorem n_model_site_6 : (Tryz.f87.name == "runtime.NumGoroutine") = false := by kernel_rfl
/-- simulator/model.site$7 -/
def c_model_site_7 : ACode :=
  .seq (.region false [⟨(some 2), .mv (.const (.int .i64 0)), none⟩])
  (.seq (.region false [⟨(some 3), .ldc (.tmp 0), none⟩,
      ⟨(some 4), .fa 6 (.tmp 1), none⟩,
      ⟨(some 5), .ldc (.tmp 4), none⟩,
      ⟨(some 6), .call (.tmp 3) [(.inr (.tmp 5))], none⟩,
      ⟨(some 2), .take 6, none⟩])
   (.ret))
def a_model_site_7 : AFn := ⟨7, [.tmp 2], c_model_site_7, false⟩
theorem t_model_site_7 : cFn Tryz.prog takesW Tryz.f88 = some a_model_site_7 := by kernel_rfl
theorem n_model_site_7 : (Tryz.f88.name == "runtime.NumGoroutine") = false := by kernel_rfl
/-- simulator/model.site$8 -/
def c_model_site_8 : ACode :=
  .seq (.region false [⟨(some 2), .mv (.const (.int .i64 0)), none⟩])
  (.seq (.region false [⟨(some 3), .ldc (.tmp 0), none⟩,
      ⟨(some 4), .fa 7 (.tmp 1), none⟩,
      ⟨(some 5), .ldc (.tmp 4), none⟩,
      ⟨(some 6), .call (.tmp 3) [(.inr (.tmp 5))], none⟩,
      ⟨(some 2), .take 6, none⟩])
   (.ret))
def a_model_site_8 : AFn := ⟨7, [.tmp 2], c_model_site_8, false⟩
theorem t_model_site_8 : cFn Tryz.prog takesW Tryz.f89 = some a_model_site_8 := by kernel_rfl
theorem n_model_site_8 : (Tryz.f89.name == "runtime.NumGoroutine") = false := by kernel_rfl
/-- simulator/model.site$9 -/
def c_model_site_9 : ACode :=
  .seq (.region false [⟨(some 2), .mv (.const (.int .i64 0)), none⟩])
  (.seq (.region false [⟨(some 3), .ldc (.tmp 0), none⟩,
      ⟨(some 4), .fa 8 (.tmp 1), none⟩,
      ⟨(some 5), .ldc (.tmp 4), none⟩,
      ⟨(some 6), .call (.tmp 3) [(.inr (.tmp 5))], none⟩,
      ⟨(some 2), .take 6, none⟩])
   (.ret))
def a_model_site_9 : AFn := ⟨7, [.tmp 2], c_model_site_9, false⟩
theorem t_model_site_9 : cFn Tryz.prog takesW Tryz.f90 = some a_model_site_9 := by kernel_rfl
theorem n_model_site_9 : (Tryz.f90.name == "runtime.NumGoroutine") = false := by kernel_rfl
/-- simulator/model.site$10 -/
def c_model_site_10 : ACode :=
  .seq (.region false [⟨(some 2), .mv (.const (.int .i64 0)), none⟩])
  (.seq (.region false [⟨(some 3), .ldc (.tmp 0), none⟩,
      ⟨(some 4), .fa 9 (.tmp 1), none⟩,
      ⟨(some 5), .ldc (.tmp 4), none⟩,
      ⟨(some 6), .call (.tmp 3) [(.inr (.tmp 5))], none⟩,
      ⟨(some 2), .take 6, none⟩])
   (.ret))
def a_model_site_10 : AFn := ⟨7, [.tmp 2], c_model_site_10, false⟩
theorem t_model_site_10 : cFn Tryz.prog takesW Tryz.f91 = some a_model_site_10 := by kernel_rfl
theorem n_model_site_10 : (Tryz.f91.name == "runtime.NumGoroutine") = false := by kernel_rfl
/-- simulator/model.site$11 -/
def c_model_site_11 : ACode :=
  .seq (.region false [⟨(some 2), .mv (.const (.int .i64 0)), none⟩])
  (.seq (.region false [⟨(some 3), .fa 10 (.tmp 0), none⟩,
      ⟨(some 4), .ldc (.tmp 3), none⟩,
      ⟨(some 5), .mkfn 94 [] [(.tmp 1)], none⟩,
      ⟨(some 6), .call (.const (.fn 93 [] [])) [(.inr (.tmp 4)), (.inr (.const (.int .i64 16))), (.inr (.tmp 5))], none⟩,
      ⟨(some 2), .take 6, none⟩])
   (.ret))
def a_model_site_11 : AFn := ⟨7, [.tmp 2], c_model_site_11, false⟩
theorem t_model_site_11 : cFn Tryz.prog takesW Tryz.f92 = some a_model_site_11 := by kernel_rfl
theorem n_model_site_11 : (Tryz.f92.name == "runtime.NumGoroutine") = false := by kernel_rfl
/-- simulator/model.site$12 -/
def c_model_site_12 : ACode :=
  .seq (.region false [⟨(some 1), .mv (.const (.int .i64 0)), none⟩])
  (.seq (.region false [⟨(some 2), .fa 11 (.tmp 0), none⟩,
      ⟨(some 3), .ldc (.tmp 2), none⟩,
      ⟨(some 4), .mkfn 98 [] [(.tmp 0)], none⟩,
      ⟨(some 5), .call (.const (.fn 97 [] [])) [(.inr (.tmp 3)), (.inr (.const (.int .i64 32))), (.inr (.tmp 4))], none⟩,
      ⟨(some 1), .take 5, none⟩])
   (.ret))
def a_model_site_12 : AFn := ⟨6, [.tmp 1], c_model_site_12, false⟩
theorem t_model_site_12 : cFn Tryz.prog takesW Tryz.f96 = some a_model_site_12 := by kernel_rfl
theorem n_model_site_12 : (Tryz.f96.name == "runtime.NumGoroutine") = false := by kernel_rfl
/-- simulator/model.site$13 -/
def c_model_site_13 : ACode :=
  .seq (.region false [⟨(some 1), .mv (.const (.int .i64 0)), none⟩])
  (.seq (.region false [⟨(some 2), .lda 13 (.tmp 0), none⟩,
      ⟨(some 3), .call (.const (.fn 101 [] [])) [(.inr (.tmp 2))], none⟩,
      ⟨(some 1), .take 3, none⟩])
   (.ret))
def a_model_site_13 : AFn := ⟨4, [.tmp 1], c_model_site_13, false⟩
theorem t_model_site_13 : cFn Tryz.prog takesW Tryz.f100 = some a_model_site_13 := by kernel_rfl
theorem n_model_site_13 : (Tryz.f100.name == "runtime.NumGoroutine") = false := by kernel_rfl
def c_model_first_l0b : ACode :=
  .seq (.region false [⟨(some 9), .bin .lss .prim (.tmp 8) (.tmp 7), none⟩])
  (.seq (.cond (.tmp 9) (.skip)
    (.exit 0))
   (.seq (.block 1 (.seq (.region false [⟨(some 10), .ia (.slice 1) (.tmp 6) (.tmp 8), none⟩,
         ⟨(some 11), .ldc (.tmp 10), none⟩,
         ⟨(some 4), .take 11, none⟩])
      (.seq (.region false [⟨(some 12), .mv (.tmp 4), none⟩,
          ⟨(some 13), .call (.tmp 12) [], none⟩,
          ⟨(some 5), .take 13, none⟩])
       (.seq (.region false [⟨(some 14), .mv (.tmp 5), none⟩,
           ⟨(some 15), .bin .neq .prim (.tmp 14) (.const (.int .i64 0)), none⟩])
        (.cond (.tmp 15) (.seq (.region false [⟨(some 16), .take 5, none⟩,
             ⟨(some 2), .take 16, none⟩])
          (.ret))
         (.skip))))))
    (.region false [⟨(some 17), .bin .add .prim (.tmp 8) (.const (.int .i64 1)), none⟩,
       ⟨(some 8), .mv (.tmp 17), none⟩])))
def c_model_first_l0 : ACode := .loop c_model_first_l0b
def c_model_first_j1 : ACode :=
  .seq (.region false [⟨(some 2), .mv (.const (.int .i64 0)), none⟩])
  (.ret)
/-- simulator/model.first -/
def c_model_first : ACode :=
  .seq (.region false [⟨(some 2), .mv (.const (.int .i64 0)), none⟩])
  (.seq (.seq (.region false [⟨(some 6), .mv (.tmp 0), none⟩,
       ⟨(some 7), .len .slice (.tmp 6), none⟩,
       ⟨(some 8), .mv (.const (.int .i64 0)), none⟩])
    (.block 0 (c_model_first_l0)))
   c_model_first_j1)
def a_model_first : AFn := ⟨18, [.tmp 2], c_model_first, false⟩
theorem t_model_first : cFn Tryz.prog takesW Tryz.f73 = some a_model_first := by kernel_rfl
theorem n_model_first : (Tryz.f73.name == "runtime.NumGoroutine") = false := by kernel_rfl
/-- simulator/model.Site -/
def c_model_Site : ACode :=
  .seq (.region false [⟨(some 2), .box 73 4 (.tmp 0), none⟩,
     ⟨(some 3), .box 9 1 (.tmp 1), none⟩,
     ⟨(some 4), .mv (.const (.int .i64 0)), none⟩])
  (.seq (.region false [⟨(some 5), .fa 2 (.tmp 2), none⟩,
      ⟨(some 6), .ldc (.tmp 5), none⟩,
      ⟨(some 7), .mkfn 144 [] [(.tmp 3)], none⟩,
      ⟨(some 8), .call (.const (.fn 143 [] [])) [(.inr (.tmp 6)), (.inr (.tmp 7))], none⟩,
      ⟨(some 4), .take 8, none⟩])
   (.ret))
def a_model_Site : AFn := ⟨9, [.tmp 4], c_model_Site, false⟩
theorem t_model_Site : cFn Tryz.prog takesW Tryz.f104 = some a_model_Site := by kernel_rfl
theorem n_model_Site : (Tryz.f104.name == "runtime.NumGoroutine") = false := by kernel_rfl
/-- simulator/model.within -/
def c_model_within : ACode :=
  .seq (.region false [⟨(some 6), .mv (.const (.bool false)), none⟩])
  (.seq (.region false [⟨(some 7), .mv (.tmp 0), none⟩,
      ⟨(some 8), .mv (.tmp 1), none⟩,
      ⟨(some 9), .bin .geq .prim (.tmp 7) (.tmp 8), none⟩,
      ⟨(some 10), .mv (.tmp 9), none⟩,
      ⟨(some 11), .mv (.tmp 0), (some (10, true))⟩,
      ⟨(some 12), .mv (.tmp 2), (some (10, true))⟩,
      ⟨(some 13), .bin .leq .prim (.tmp 11) (.tmp 12), (some (10, true))⟩,
      ⟨(some 14), .pick (.tmp 10) (.tmp 13) (.const (.bool false)), none⟩,
      ⟨(some 6), .take 14, none⟩])
   (.ret))
def a_model_within : AFn := ⟨15, [.tmp 6], c_model_within, false⟩
theorem t_model_within : cFn Tryz.prog takesW Tryz.f78 = some a_model_within := by kernel_rfl
theorem n_model_within : (Tryz.f78.name == "runtime.NumGoroutine") = false := by kernel_rfl
/-- simulator/code.zero -/
def c_code_zero : ACode :=
  .seq (.region false [⟨(some 1), .box 104 4 (.tmp 0), none⟩,
     ⟨(some 2), .mv (.const (.bool false)), none⟩])
  (.seq (.region false [⟨(some 3), .lda 4 (.tmp 1), none⟩,
      ⟨(some 4), .build [(.int .i64 0), (.str []), (.int .i64 0), (.own 4 [])] [], none⟩,
      ⟨(some 5), .call (.const (.fn 179 [] [])) [(.inr (.tmp 3)), (.inr (.tmp 4))], none⟩,
      ⟨(some 2), .take 5, none⟩])
   (.ret))
def a_code_zero : AFn := ⟨6, [.tmp 2], c_code_zero, false⟩
theorem t_code_zero : cFn Tryz.prog takesW Tryz.f145 = some a_code_zero := by kernel_rfl
theorem n_code_zero : (Tryz.f145.name == "runtime.NumGoroutine") = false := by kernel_rfl
/-- simulator/dist.Same -/
def c_dist_Same : ACode :=
  .seq (.region false [⟨(some 2), .box 107 6 (.tmp 0), none⟩,
     ⟨(some 3), .box 107 6 (.tmp 1), none⟩,
     ⟨(some 4), .mv (.const (.bool false)), none⟩])
  (.seq (.region false [⟨(some 5), .fa 0 (.tmp 2), none⟩,
      ⟨(some 6), .ldc (.tmp 5), none⟩,
      ⟨(some 7), .fa 0 (.tmp 3), none⟩,
      ⟨(some 8), .ldc (.tmp 7), none⟩,
      ⟨(some 9), .bin .eql .prim (.tmp 6) (.tmp 8), none⟩,
      ⟨(some 10), .mv (.tmp 9), none⟩,
      ⟨(some 11), .fa 1 (.tmp 2), (some (10, true))⟩,
      ⟨(some 12), .ldc (.tmp 11), (some (10, true))⟩,
      ⟨(some 13), .fa 1 (.tmp 3), (some (10, true))⟩,
      ⟨(some 14), .ldc (.tmp 13), (some (10, true))⟩,
      ⟨(some 15), .bin .eql .prim (.tmp 12) (.tmp 14), (some (10, true))⟩,
      ⟨(some 16), .pick (.tmp 10) (.tmp 15) (.const (.bool false)), none⟩,
      ⟨(some 17), .mv (.tmp 16), none⟩,
      ⟨(some 18), .fa 2 (.tmp 2), (some (17, true))⟩,
      ⟨(some 19), .ldc (.tmp 18), (some (17, true))⟩,
      ⟨(some 20), .fa 2 (.tmp 3), (some (17, true))⟩,
      ⟨(some 21), .ldc (.tmp 20), (some (17, true))⟩,
      ⟨(some 22), .bin .eql .prim (.tmp 19) (.tmp 21), (some (17, true))⟩,
      ⟨(some 23), .pick (.tmp 17) (.tmp 22) (.const (.bool false)), none⟩,
      ⟨(some 24), .mv (.tmp 23), none⟩,
      ⟨(some 25), .fa 3 (.tmp 2), (some (24, true))⟩,
      ⟨(some 26), .ldc (.tmp 25), (some (24, true))⟩,
      ⟨(some 27), .fa 3 (.tmp 3), (some (24, true))⟩,
      ⟨(some 28), .ldc (.tmp 27), (some (24, true))⟩,
      ⟨(some 29), .bin .eql .prim (.tmp 26) (.tmp 28), (some (24, true))⟩,
      ⟨(some 30), .pick (.tmp 24) (.tmp 29) (.const (.bool false)), none⟩,
      ⟨(some 31), .mv (.tmp 30), none⟩,
      ⟨(some 32), .fa 4 (.tmp 2), (some (31, true))⟩,
      ⟨(some 33), .ldc (.tmp 32), (some (31, true))⟩,
      ⟨(some 34), .fa 4 (.tmp 3), (some (31, true))⟩,
      ⟨(some 35), .ldc (.tmp 34), (some (31, true))⟩,
      ⟨(some 36), .call (.const (.fn 169 [] [])) [(.inr (.tmp 33)), (.inr (.tmp 35))], (some (31, true))⟩,
      ⟨(some 37), .pick (.tmp 31) (.tmp 36) (.const (.bool false)), none⟩,
      ⟨(some 38), .mv (.tmp 37), none⟩,
      ⟨(some 39), .fa 5 (.tmp 2), (some (38, true))⟩,
      ⟨(some 40), .ldc (.tmp 39), (some (38, true))⟩,
      ⟨(some 41), .fa 5 (.tmp 3), (some (38, true))⟩,
      ⟨(some 42), .ldc (.tmp 41), (some (38, true))⟩,
      ⟨(some 43), .call (.const (.fn 169 [] [])) [(.inr (.tmp 40)), (.inr (.tmp 42))], (some (38, true))⟩,
      ⟨(some 44), .pick (.tmp 38) (.tmp 43) (.const (.bool false)), none⟩,
      ⟨(some 4), .take 44, none⟩])
   (.ret))
def a_dist_Same : AFn := ⟨45, [.tmp 4], c_dist_Same, false⟩
theorem t_dist_Same : cFn Tryz.prog takesW Tryz.f132 = some a_dist_Same := by kernel_rfl
theorem n_dist_Same : (Tryz.f132.name == "runtime.NumGoroutine") = false := by kernel_rfl
end Go.Proofs.YtgjcjbhhhlelnaaGreatDoor
