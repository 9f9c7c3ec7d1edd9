/-
  More functions in the evaluator's terms (what the worked examples reach); printed by wip/abs/T6.lean.txt.
-/
import Derived.Test.YtlmfmmclnboglaaGreatTA
import Derived.Test.YtlmfmmclnboglaaGreatGF
namespace Go.Proofs.YtlmfmmclnboglaaGreat
open Go Go.Proofs.YtlmfmmclnboglaaGreat.Abs
set_option maxRecDepth 100000
set_option maxHeartbeats 0
set_option linter.all false
def takesW : FuncId → List Nat := fun _ => []
def takesK : FuncId → List Nat := fun x => if x = litMark then [1000043, 1000050, 1000058, 1000055] else []
/-- simulator/simulatorlaw11.awake -/
def c_law11_awake : ACode :=
  .seq (.region false [⟨(some 0), .mv (.const (.bool false)), none⟩])
  (.seq (.region false [⟨(some 8), .call (.const (.fn 25 [] [])) [], none⟩,
      ⟨(some 9), .call (.const (.fn 25 [] [])) [], none⟩,
      ⟨(some 10), .call (.const (.fn 25 [] [])) [], none⟩,
      ⟨(some 11), .call (.const (.fn 25 [] [])) [], none⟩,
      ⟨(some 1), .mk 26 [(.str []), (.own 3 []), (.own 13 []), (.own 3 [])], none⟩,
      ⟨(some 2), .mk 26 [(.str []), (.own 3 []), (.own 13 []), (.own 3 [])], none⟩,
      ⟨(some 3), .mk 26 [(.str []), (.own 3 []), (.own 13 []), (.own 3 [])], none⟩,
      ⟨(some 4), .mk 26 [(.str []), (.own 3 []), (.own 13 []), (.own 3 [])], none⟩,
      ⟨none, .st 4 (.tmp 1) (.tmp 8), none⟩,
      ⟨none, .st 4 (.tmp 2) (.tmp 9), none⟩,
      ⟨none, .st 4 (.tmp 3) (.tmp 10), none⟩,
      ⟨none, .st 4 (.tmp 4) (.tmp 11), none⟩])
   (.seq (.region false [⟨(some 12), .fa 2 (.tmp 2), none⟩,
       ⟨(some 13), .ldc (.tmp 12), none⟩,
       ⟨(some 14), .lit 9 1 [(.const (.str [109]))], none⟩,
       ⟨(some 15), .ia (.slice 13) (.tmp 13) (.const (.int .i64 0)), none⟩,
       ⟨(some 16), .fa 5 (.tmp 15), none⟩,
       ⟨none, .stt (.tmp 16) 14, none⟩])
    (.seq (.region false [⟨(some 17), .fa 2 (.tmp 3), none⟩,
        ⟨(some 18), .ldc (.tmp 17), none⟩,
        ⟨(some 19), .ia (.slice 13) (.tmp 18) (.const (.int .i64 0)), none⟩,
        ⟨(some 20), .fa 12 (.tmp 19), none⟩,
        ⟨(some 21), .ldc (.tmp 20), none⟩,
        ⟨(some 22), .ia (.slice 3) (.tmp 21) (.const (.int .i64 0)), none⟩,
        ⟨(some 23), .fa 1 (.tmp 22), none⟩,
        ⟨(some 24), .ldc (.tmp 23), none⟩,
        ⟨(some 25), .ia (.slice 3) (.tmp 24) (.const (.int .i64 0)), none⟩,
        ⟨(some 26), .fa 1 (.tmp 25), none⟩,
        ⟨none, .st 1 (.tmp 26) (.const (.str [115, 116, 111, 114, 101, 100])), none⟩])
     (.seq (.region false [⟨(some 27), .fa 3 (.tmp 4), none⟩,
         ⟨(some 28), .ldc (.tmp 27), none⟩,
         ⟨(some 29), .ia (.slice 3) (.tmp 28) (.const (.int .i64 0)), none⟩,
         ⟨(some 30), .fa 1 (.tmp 29), none⟩,
         ⟨none, .st 1 (.tmp 30) (.const (.str [112, 108, 97, 110, 116])), none⟩])
      (.seq (.region false [⟨(some 32), .lda 4 (.tmp 1), none⟩,
          ⟨(some 33), .call (.const (.fn 12 [] [])) [(.inr (.tmp 32)), (.inr (.const (.str [112, 108, 97, 110, 116]))), (.inr (.const (.str [121, 97, 114, 100])))], none⟩,
          ⟨(some 31), .mv (.tmp 33), none⟩,
          ⟨(some 34), .extract (.tmp 31) 0, none⟩,
          ⟨(some 35), .extract (.tmp 31) 1, none⟩,
          ⟨(some 5), .take 34, none⟩,
          ⟨(some 6), .take 35, none⟩])
       (.seq (.region false [⟨(some 36), .fa 2 (.tmp 1), none⟩,
           ⟨(some 37), .ldc (.tmp 36), none⟩,
           ⟨(some 38), .ia (.slice 13) (.tmp 37) (.const (.int .i64 0)), none⟩,
           ⟨(some 39), .lda 13 (.tmp 38), none⟩,
           ⟨(some 7), .mk 42 [(.str []), (.own 3 []), (.own 17 []), (.own 3 []), (.own 3 []), (.own 1 []), (.own 1 []), (.own 1 []), (.own 1 []), (.own 1 []), (.own 4 []), (.own 5 []), (.own 3 [])], none⟩,
           ⟨none, .st 13 (.tmp 7) (.tmp 39), none⟩])
        (.seq (.region true [⟨(some 40), .lda 4 (.tmp 1), none⟩,
            ⟨(some 41), .call (.const (.fn 10 [] [])) [(.inr (.tmp 40))], none⟩,
            ⟨(some 42), .bin .eql .prim (.tmp 41) (.const (.int .i64 0)), none⟩,
            ⟨(some 43), .mv (.tmp 42), none⟩,
            ⟨(some 44), .lda 4 (.tmp 2), (some (43, true))⟩,
            ⟨(some 45), .call (.const (.fn 10 [] [])) [(.inr (.tmp 44))], (some (43, true))⟩,
            ⟨(some 46), .bin .eql .prim (.tmp 45) (.const (.int .i64 4)), (some (43, true))⟩,
            ⟨(some 47), .pick (.tmp 43) (.tmp 46) (.const (.bool false)), none⟩,
            ⟨(some 48), .mv (.tmp 47), none⟩,
            ⟨(some 49), .lda 4 (.tmp 3), (some (48, true))⟩,
            ⟨(some 50), .call (.const (.fn 10 [] [])) [(.inr (.tmp 49))], (some (48, true))⟩,
            ⟨(some 51), .bin .eql .prim (.tmp 50) (.const (.int .i64 5)), (some (48, true))⟩,
            ⟨(some 52), .pick (.tmp 48) (.tmp 51) (.const (.bool false)), none⟩,
            ⟨(some 53), .mv (.tmp 52), none⟩,
            ⟨(some 54), .lda 4 (.tmp 4), (some (53, true))⟩,
            ⟨(some 55), .call (.const (.fn 10 [] [])) [(.inr (.tmp 54))], (some (53, true))⟩,
            ⟨(some 56), .bin .eql .prim (.tmp 55) (.const (.int .i64 1)), (some (53, true))⟩,
            ⟨(some 57), .pick (.tmp 53) (.tmp 56) (.const (.bool false)), none⟩,
            ⟨(some 58), .mv (.tmp 57), none⟩,
            ⟨(some 59), .mv (.tmp 5), (some (58, true))⟩,
            ⟨(some 60), .bin .eql .prim (.tmp 59) (.const (.int .i64 4)), (some (58, true))⟩,
            ⟨(some 61), .pick (.tmp 58) (.tmp 60) (.const (.bool false)), none⟩,
            ⟨(some 62), .mv (.tmp 61), none⟩,
            ⟨(some 63), .mv (.tmp 6), (some (62, true))⟩,
            ⟨(some 64), .pick (.tmp 62) (.tmp 63) (.const (.bool false)), none⟩,
            ⟨(some 65), .mv (.tmp 64), none⟩,
            ⟨(some 66), .lda 4 (.tmp 1), (some (65, true))⟩,
            ⟨(some 67), .call (.const (.fn 14 [] [])) [(.inr (.tmp 66)), (.inr (.const (.str [121, 97, 114, 100])))], (some (65, true))⟩,
            ⟨(some 68), .bin .eql .prim (.tmp 67) (.const (.int .i64 1)), (some (65, true))⟩,
            ⟨(some 69), .pick (.tmp 65) (.tmp 68) (.const (.bool false)), none⟩,
            ⟨(some 70), .mv (.tmp 69), none⟩,
            ⟨(some 71), .lda 13 (.tmp 7), (some (70, true))⟩,
            ⟨(some 72), .call (.const (.fn 16 [] [])) [(.inr (.tmp 71)), (.inr (.const (.str [112, 97, 114, 116])))], (some (70, true))⟩,
            ⟨(some 73), .bin .eql .prim (.tmp 72) (.const (.int .i64 0)), (some (70, true))⟩,
            ⟨(some 74), .pick (.tmp 70) (.tmp 73) (.const (.bool false)), none⟩,
            ⟨(some 75), .mv (.tmp 74), none⟩,
            ⟨(some 76), .lda 13 (.tmp 7), (some (75, true))⟩,
            ⟨(some 77), .call (.const (.fn 18 [] [])) [(.inr (.tmp 76)), (.inr (.const (.str [100, 111, 110, 101])))], (some (75, true))⟩,
            ⟨(some 78), .bin .eql .prim (.tmp 77) (.const (.str [99, 111, 117, 110, 116])), (some (75, true))⟩,
            ⟨(some 79), .pick (.tmp 75) (.tmp 78) (.const (.bool false)), none⟩,
            ⟨(some 80), .mv (.tmp 79), none⟩,
            ⟨(some 81), .lda 13 (.tmp 7), (some (80, true))⟩,
            ⟨(some 82), .call (.const (.fn 20 [] [])) [(.inr (.tmp 81)), (.inr (.const (.str [100, 111, 110, 101])))], (some (80, true))⟩,
            ⟨(some 83), .bin .eql .prim (.tmp 82) (.const (.int .i64 0)), (some (80, true))⟩,
            ⟨(some 84), .pick (.tmp 80) (.tmp 83) (.const (.bool false)), none⟩,
            ⟨(some 85), .mv (.tmp 84), none⟩,
            ⟨(some 86), .lda 13 (.tmp 7), (some (85, true))⟩,
            ⟨(some 87), .call (.const (.fn 20 [] [])) [(.inr (.tmp 86)), (.inr (.const (.str [120])))], (some (85, true))⟩,
            ⟨(some 88), .bin .eql .prim (.tmp 87) (.const (.int .i64 (-1))), (some (85, true))⟩,
            ⟨(some 89), .pick (.tmp 85) (.tmp 88) (.const (.bool false)), none⟩,
            ⟨(some 90), .mv (.tmp 89), none⟩,
            ⟨(some 91), .lda 4 (.tmp 1), (some (90, true))⟩,
            ⟨(some 92), .call (.const (.fn 25 [] [])) [], (some (90, true))⟩,
            ⟨(some 93), .call (.const (.fn 23 [] [])) [(.inr (.tmp 91)), (.inr (.tmp 92))], (some (90, true))⟩,
            ⟨(some 94), .pick (.tmp 90) (.tmp 93) (.const (.bool false)), none⟩,
            ⟨(some 95), .mv (.tmp 94), none⟩,
            ⟨(some 96), .lda 4 (.tmp 1), (some (95, true))⟩,
            ⟨(some 97), .lda 4 (.tmp 2), (some (95, true))⟩,
            ⟨(some 98), .call (.const (.fn 23 [] [])) [(.inr (.tmp 96)), (.inr (.tmp 97))], (some (95, true))⟩,
            ⟨(some 99), .un .not (.tmp 98), (some (95, true))⟩,
            ⟨(some 100), .pick (.tmp 95) (.tmp 99) (.const (.bool false)), none⟩,
            ⟨(some 0), .take 100, none⟩])
         (.ret))))))))
def a_law11_awake : AFn := ⟨101, [.tmp 0], c_law11_awake, false⟩
theorem t_law11_awake : cFnC Tryz.prog takesW Tryz.f9 = some a_law11_awake := by kernel_rfl
theorem n_law11_awake : (Tryz.f9.name == "runtime.NumGoroutine") = false := by kernel_rfl
/-- simulator/simulatorlaw11.sample -/
def c_law11_sample : ACode :=
  .seq (.region false [⟨(some 0), .mk 26 [(.str []), (.own 3 []), (.own 13 []), (.own 3 [])], none⟩])
  (.seq (.region false [⟨(some 2), .build [(.str []), (.int .i64 0), (.own 2 []), (.int .i64 0), (.str []), (.int .i64 0), (.int .i64 0), (.int .i64 0), (.int .i64 0), (.own 1 []), (.own 1 []), (.int .i64 0), (.int .i64 0), (.int .i64 0), (.int .i64 0), (.own 1 []), (.own 1 [])] [(0, 1, (.const (.str [109]))), (1, 1, (.const (.int .i64 1)))], none⟩,
      ⟨(some 3), .lit 92 17 [(.tmp 2)], none⟩,
      ⟨(some 4), .lit 9 1 [(.const (.str [113]))], none⟩,
      ⟨(some 5), .lit 9 1 [(.const (.str [100, 111, 110, 101]))], none⟩,
      ⟨(some 6), .build [(.str []), (.int .i64 0)] [(0, 1, (.const (.str [107]))), (1, 1, (.const (.int .i64 1)))], none⟩,
      ⟨(some 7), .lit 103 2 [(.tmp 6)], none⟩,
      ⟨(some 8), .build [(.str []), (.own 2 []), (.own 2 []), (.own 21 [])] [(0, 1, (.const (.str [112, 97, 114, 116]))), (1, 1, (.tmp 7))], none⟩,
      ⟨(some 9), .lit 79 4 [(.tmp 8)], none⟩,
      ⟨(some 10), .lit 3 1 [(.const (.int .i64 3))], none⟩,
      ⟨(some 11), .build [(.str []), (.own 1 []), (.int .i64 0), (.int .i64 0), (.int .i64 0)] [(0, 1, (.const (.str [112, 97, 114, 116]))), (1, 1, (.tmp 10)), (2, 1, (.const (.int .i64 1)))], none⟩,
      ⟨(some 12), .lit 105 5 [(.tmp 11)], none⟩,
      ⟨(some 13), .build [(.int .i64 0), (.str []), (.str [])] [(0, 1, (.const (.int .i64 1))), (1, 1, (.const (.str [99, 114, 101, 97, 116, 101, 100]))), (2, 1, (.const (.str [112, 97, 114, 116])))], none⟩,
      ⟨(some 14), .build [(.int .i64 0), (.str []), (.str [])] [(0, 1, (.const (.int .i64 (-1)))), (1, 1, (.const (.str [105, 110, 115, 105, 100, 101]))), (2, 1, (.const (.str [112, 97, 114, 116])))], none⟩,
      ⟨(some 15), .lita 54 3 [(.tmp 13), (.tmp 14)], none⟩,
      ⟨(some 16), .build [(.str []), (.own 3 []), (.int .i64 0)] [(0, 1, (.const (.str [112, 97, 114, 116, 115]))), (1, 1, (.tmp 15))], none⟩,
      ⟨(some 17), .lita 57 3 [(.tmp 16)], none⟩,
      ⟨(some 18), .build [(.str []), (.own 3 []), (.own 17 []), (.own 3 []), (.own 3 []), (.own 1 []), (.own 1 []), (.own 1 []), (.own 1 []), (.own 1 []), (.own 4 []), (.own 5 []), (.own 3 [])] [(0, 1, (.const (.str [112, 108, 97, 110, 116]))), (2, 1, (.tmp 3)), (5, 1, (.tmp 4)), (9, 1, (.tmp 5)), (10, 1, (.tmp 9)), (11, 1, (.tmp 12)), (12, 1, (.tmp 17))], none⟩,
      ⟨(some 1), .mk 42 [(.str []), (.own 3 []), (.own 17 []), (.own 3 []), (.own 3 []), (.own 1 []), (.own 1 []), (.own 1 []), (.own 1 []), (.own 1 []), (.own 4 []), (.own 5 []), (.own 3 [])], none⟩,
      ⟨none, .st 13 (.tmp 1) (.tmp 18), none⟩])
   (.seq (.region false [⟨(some 19), .lda 13 (.tmp 1), none⟩,
       ⟨(some 20), .build [(.str []), (.own 3 []), (.own 17 []), (.own 3 []), (.own 3 []), (.own 1 []), (.own 1 []), (.own 1 []), (.own 1 []), (.own 1 []), (.own 4 []), (.own 5 []), (.own 3 [])] [(0, 1, (.const (.str [121, 97, 114, 100])))], none⟩,
       ⟨(some 21), .lita 42 13 [(.tmp 19), (.tmp 20)], none⟩,
       ⟨(some 22), .build [(.str []), (.str []), (.int .i64 0)] [(0, 1, (.const (.str [112, 108, 97, 110, 116]))), (1, 1, (.const (.str [121, 97, 114, 100]))), (2, 1, (.const (.int .i64 4)))], none⟩,
       ⟨(some 23), .lita 49 3 [(.tmp 22)], none⟩,
       ⟨(some 24), .build [(.str []), (.own 3 []), (.own 13 []), (.own 3 [])] [(0, 1, (.const (.str [115, 104, 111, 112]))), (2, 1, (.tmp 21)), (3, 1, (.tmp 23))], none⟩,
       ⟨none, .st 4 (.tmp 0) (.tmp 24), none⟩])
    (.ret)))
def a_law11_sample : AFn := ⟨25, [.agg 0 4], c_law11_sample, true⟩
theorem t_law11_sample : cFn Tryz.prog takesK Tryz.f25 = some a_law11_sample := by kernel_rfl
theorem n_law11_sample : (Tryz.f25.name == "runtime.NumGoroutine") = false := by kernel_rfl
/-- simulator/model.Check -/
def c_model_Check : ACode :=
  .seq (.region false [⟨(some 1), .box 26 4 (.tmp 0), none⟩,
     ⟨(some 2), .mv (.const (.int .i64 0)), none⟩])
  (.seq (.seq (.region false [⟨(some 7), .fa 0 (.tmp 1), none⟩,
       ⟨(some 8), .ldc (.tmp 7), none⟩,
       ⟨(some 9), .call (.const (.fn 26 [] [])) [(.inr (.tmp 8))], none⟩,
       ⟨(some 3), .take 9, none⟩])
    (.seq (.region false [⟨(some 10), .mv (.tmp 3), none⟩,
        ⟨(some 11), .bin .neq .prim (.tmp 10) (.const (.int .i64 0)), none⟩])
     (.cond (.tmp 11) (.seq (.region false [⟨(some 12), .take 3, none⟩,
          ⟨(some 2), .take 12, none⟩])
       (.ret))
      (.skip))))
   (.seq (.seq (.region false [⟨(some 13), .mkmap, none⟩,
        ⟨(some 14), .fa 1 (.tmp 1), none⟩,
        ⟨(some 15), .ldc (.tmp 14), none⟩,
        ⟨(some 16), .call (.const (.fn 27 [] [])) [(.inr (.tmp 13)), (.inr (.tmp 15))], none⟩,
        ⟨(some 4), .take 16, none⟩])
     (.seq (.region false [⟨(some 17), .mv (.tmp 4), none⟩,
         ⟨(some 18), .bin .neq .prim (.tmp 17) (.const (.int .i64 0)), none⟩])
      (.cond (.tmp 18) (.seq (.region false [⟨(some 19), .take 4, none⟩,
           ⟨(some 2), .take 19, none⟩])
        (.ret))
       (.skip))))
    (.seq (.seq (.region false [⟨(some 20), .fa 2 (.tmp 1), none⟩,
         ⟨(some 21), .ldc (.tmp 20), none⟩,
         ⟨(some 22), .len .slice (.tmp 21), none⟩,
         ⟨(some 23), .bin .eql .prim (.tmp 22) (.const (.int .i64 0)), none⟩])
      (.cond (.tmp 23) (.seq (.region false [⟨(some 2), .mv (.const (.int .i64 7)), none⟩])
        (.ret))
       (.skip)))
     (.seq (.region false [⟨(some 24), .mkmap, none⟩,
         ⟨(some 5), .mk 60 [.nilm], none⟩,
         ⟨none, .stt (.tmp 5) 24, none⟩])
      (.seq (.region false [⟨(some 25), .fa 2 (.tmp 1), none⟩,
          ⟨(some 26), .ldc (.tmp 25), none⟩,
          ⟨(some 27), .mkfn 29 [] [(.tmp 5)], none⟩,
          ⟨(some 28), .call (.const (.fn 28 [] [])) [(.inr (.tmp 26)), (.inr (.const (.int .i64 16))), (.inr (.tmp 27))], none⟩,
          ⟨(some 6), .take 28, none⟩])
       (.seq (.seq (.region false [⟨(some 29), .mv (.tmp 6), none⟩,
            ⟨(some 30), .bin .neq .prim (.tmp 29) (.const (.int .i64 0)), none⟩])
         (.cond (.tmp 30) (.seq (.region false [⟨(some 31), .take 6, none⟩,
              ⟨(some 2), .take 31, none⟩])
           (.ret))
          (.skip)))
        (.seq (.region false [⟨(some 32), .lda 4 (.tmp 1), none⟩,
            ⟨(some 33), .call (.const (.fn 32 [] [])) [(.inr (.tmp 32))], none⟩,
            ⟨(some 2), .take 33, none⟩])
         (.ret))))))))
def a_model_Check : AFn := ⟨34, [.tmp 2], c_model_Check, false⟩
theorem t_model_Check : cFn Tryz.prog takesW Tryz.f10 = some a_model_Check := by kernel_rfl
theorem n_model_Check : (Tryz.f10.name == "runtime.NumGoroutine") = false := by kernel_rfl
/-- simulator/model.Same -/
def c_model_Same : ACode :=
  .seq (.region false [⟨(some 2), .box 26 4 (.tmp 0), none⟩,
     ⟨(some 3), .box 26 4 (.tmp 1), none⟩,
     ⟨(some 4), .mv (.const (.bool false)), none⟩])
  (.seq (.region false [⟨(some 5), .fa 0 (.tmp 2), none⟩,
      ⟨(some 6), .ldc (.tmp 5), none⟩,
      ⟨(some 7), .fa 0 (.tmp 3), none⟩,
      ⟨(some 8), .ldc (.tmp 7), none⟩,
      ⟨(some 9), .bin .eql .prim (.tmp 6) (.tmp 8), none⟩,
      ⟨(some 10), .mv (.tmp 9), none⟩,
      ⟨(some 11), .fa 1 (.tmp 2), (some (10, true))⟩,
      ⟨(some 12), .ldc (.tmp 11), (some (10, true))⟩,
      ⟨(some 13), .fa 1 (.tmp 3), (some (10, true))⟩,
      ⟨(some 14), .ldc (.tmp 13), (some (10, true))⟩,
      ⟨(some 15), .call (.const (.fn 48 [] [])) [(.inr (.tmp 12)), (.inr (.tmp 14))], (some (10, true))⟩,
      ⟨(some 16), .pick (.tmp 10) (.tmp 15) (.const (.bool false)), none⟩,
      ⟨(some 17), .mv (.tmp 16), none⟩,
      ⟨(some 18), .fa 2 (.tmp 2), (some (17, true))⟩,
      ⟨(some 19), .ldc (.tmp 18), (some (17, true))⟩,
      ⟨(some 20), .fa 2 (.tmp 3), (some (17, true))⟩,
      ⟨(some 21), .ldc (.tmp 20), (some (17, true))⟩,
      ⟨(some 22), .call (.const (.fn 49 [] [])) [(.inr (.tmp 19)), (.inr (.tmp 21)), (.inr (.const (.fn 50 [] [])))], (some (17, true))⟩,
      ⟨(some 23), .pick (.tmp 17) (.tmp 22) (.const (.bool false)), none⟩,
      ⟨(some 24), .mv (.tmp 23), none⟩,
      ⟨(some 25), .fa 3 (.tmp 2), (some (24, true))⟩,
      ⟨(some 26), .ldc (.tmp 25), (some (24, true))⟩,
      ⟨(some 27), .fa 3 (.tmp 3), (some (24, true))⟩,
      ⟨(some 28), .ldc (.tmp 27), (some (24, true))⟩,
      ⟨(some 29), .call (.const (.fn 51 [] [])) [(.inr (.tmp 26)), (.inr (.tmp 28))], (some (24, true))⟩,
      ⟨(some 30), .pick (.tmp 24) (.tmp 29) (.const (.bool false)), none⟩,
      ⟨(some 4), .take 30, none⟩])
   (.ret))
def a_model_Same : AFn := ⟨31, [.tmp 4], c_model_Same, false⟩
theorem t_model_Same : cFn Tryz.prog takesW Tryz.f23 = some a_model_Same := by kernel_rfl
theorem n_model_Same : (Tryz.f23.name == "runtime.NumGoroutine") = false := by kernel_rfl
def c_names_Check_l0b : ACode :=
  .seq (.region false [⟨(some 25), .bin .lss .prim (.tmp 24) (.tmp 23), none⟩])
  (.seq (.cond (.tmp 25) (.skip)
    (.exit 0))
   (.seq (.block 1 (.seq (.region false [⟨(some 26), .mv (.tmp 24), none⟩,
         ⟨(some 3), .take 26, none⟩])
      (.seq (.region false [⟨(some 27), .mv (.tmp 0), none⟩,
          ⟨(some 28), .mv (.tmp 3), none⟩,
          ⟨(some 29), .idx (.tmp 27) (.tmp 28), none⟩,
          ⟨(some 4), .take 29, none⟩])
       (.seq (.region false [⟨(some 30), .mv (.tmp 4), none⟩,
           ⟨(some 31), .call (.const (.fn 54 [] [])) [(.inr (.tmp 30))], none⟩,
           ⟨(some 32), .un .not (.tmp 31), none⟩,
           ⟨(some 33), .mv (.tmp 32), none⟩,
           ⟨(some 34), .mv (.tmp 4), (some (33, true))⟩,
           ⟨(some 35), .bin .lss .prim (.tmp 34) (.const (.int .u8 48)), (some (33, true))⟩,
           ⟨(some 36), .mv (.tmp 35), (some (33, true))⟩,
           ⟨(some 37), .mv (.tmp 4), (some (36, false))⟩,
           ⟨(some 38), .bin .gtr .prim (.tmp 37) (.const (.int .u8 57)), (some (36, false))⟩,
           ⟨(some 39), .pick (.tmp 36) (.const (.bool true)) (.tmp 38), (some (33, true))⟩,
           ⟨(some 40), .pick (.tmp 33) (.tmp 39) (.const (.bool false)), none⟩,
           ⟨(some 41), .mv (.tmp 40), none⟩,
           ⟨(some 42), .mv (.tmp 4), (some (41, true))⟩,
           ⟨(some 43), .bin .neq .prim (.tmp 42) (.const (.int .u8 95)), (some (41, true))⟩,
           ⟨(some 44), .pick (.tmp 41) (.tmp 43) (.const (.bool false)), none⟩])
        (.cond (.tmp 44) (.seq (.region false [⟨(some 2), .mv (.const (.int .i64 3)), none⟩])
          (.ret))
         (.skip))))))
    (.region false [⟨(some 45), .bin .add .prim (.tmp 24) (.const (.int .i64 1)), none⟩,
       ⟨(some 24), .mv (.tmp 45), none⟩])))
def c_names_Check_l0 : ACode := .loop c_names_Check_l0b
def c_names_Check_j1 : ACode :=
  .seq (.region false [⟨(some 2), .mv (.const (.int .i64 0)), none⟩])
  (.ret)
/-- simulator/names.Check -/
def c_names_Check : ACode :=
  .seq (.region false [⟨(some 2), .mv (.const (.int .i64 0)), none⟩])
  (.seq (.seq (.region false [⟨(some 5), .mv (.tmp 0), none⟩,
       ⟨(some 6), .bin .eql .prim (.tmp 5) (.const (.str [])), none⟩,
       ⟨(some 7), .mv (.tmp 6), none⟩,
       ⟨(some 8), .mv (.tmp 0), (some (7, false))⟩,
       ⟨(some 9), .len .str (.tmp 8), (some (7, false))⟩,
       ⟨(some 10), .bin .gtr .prim (.tmp 9) (.const (.int .i64 24)), (some (7, false))⟩,
       ⟨(some 11), .pick (.tmp 7) (.const (.bool true)) (.tmp 10), none⟩,
       ⟨(some 12), .mv (.tmp 11), none⟩,
       ⟨(some 13), .mv (.tmp 0), (some (12, false))⟩,
       ⟨(some 14), .idx (.tmp 13) (.const (.int .i64 0)), (some (12, false))⟩,
       ⟨(some 15), .call (.const (.fn 54 [] [])) [(.inr (.tmp 14))], (some (12, false))⟩,
       ⟨(some 16), .un .not (.tmp 15), (some (12, false))⟩,
       ⟨(some 17), .pick (.tmp 12) (.const (.bool true)) (.tmp 16), none⟩,
       ⟨(some 18), .mv (.tmp 17), none⟩,
       ⟨(some 19), .mv (.tmp 0), (some (18, false))⟩,
       ⟨(some 20), .call (.const (.fn 55 [] [])) [(.inr (.tmp 19))], (some (18, false))⟩,
       ⟨(some 21), .pick (.tmp 18) (.const (.bool true)) (.tmp 20), none⟩])
    (.cond (.tmp 21) (.seq (.region false [⟨(some 2), .mv (.const (.int .i64 3)), none⟩])
      (.ret))
     (.skip)))
   (.seq (.seq (.region false [⟨(some 22), .mv (.tmp 0), none⟩,
        ⟨(some 23), .len .str (.tmp 22), none⟩,
        ⟨(some 24), .mv (.const (.int .i64 0)), none⟩])
     (.block 0 (c_names_Check_l0)))
    c_names_Check_j1))
def a_names_Check : AFn := ⟨46, [.tmp 2], c_names_Check, false⟩
theorem t_names_Check : cFn Tryz.prog takesW Tryz.f26 = some a_names_Check := by kernel_rfl
theorem n_names_Check : (Tryz.f26.name == "runtime.NumGoroutine") = false := by kernel_rfl
/-- (simulator/model.scope).values -/
def c__model_scope__values : ACode :=
  .seq (.region false [⟨(some 4), .mv (.const (.int .i64 0)), none⟩])
  (.seq (.region false [⟨(some 5), .mv (.tmp 1), none⟩,
      ⟨(some 6), .mv (.tmp 0), none⟩,
      ⟨(some 7), .mkfn 57 [(.tmp 6)] [], none⟩,
      ⟨(some 8), .call (.const (.fn 56 [] [])) [(.inr (.tmp 5)), (.inr (.const (.int .i64 32))), (.inr (.tmp 7))], none⟩,
      ⟨(some 4), .take 8, none⟩])
   (.ret))
def a__model_scope__values : AFn := ⟨9, [.tmp 4], c__model_scope__values, false⟩
theorem t__model_scope__values : cFn Tryz.prog takesW Tryz.f27 = some a__model_scope__values := by kernel_rfl
theorem n__model_scope__values : (Tryz.f27.name == "runtime.NumGoroutine") = false := by kernel_rfl
/-- simulator/model.Check$1 -/
def c_model_Check_1 : ACode :=
  .seq (.region false [⟨(some 2), .box 42 13 (.tmp 0), none⟩,
     ⟨(some 3), .mv (.const (.int .i64 0)), none⟩])
  (.seq (.seq (.region false [⟨(some 5), .ldc (.tmp 1), none⟩,
       ⟨(some 6), .fa 0 (.tmp 2), none⟩,
       ⟨(some 7), .ldc (.tmp 6), none⟩,
       ⟨(some 8), .call (.const (.fn 30 [] [])) [(.inr (.tmp 5)), (.inr (.tmp 7))], none⟩,
       ⟨(some 4), .take 8, none⟩])
    (.seq (.region false [⟨(some 9), .mv (.tmp 4), none⟩,
        ⟨(some 10), .bin .neq .prim (.tmp 9) (.const (.int .i64 0)), none⟩])
     (.cond (.tmp 10) (.seq (.region false [⟨(some 11), .take 4, none⟩,
          ⟨(some 3), .take 11, none⟩])
       (.ret))
      (.skip))))
   (.seq (.region false [⟨(some 12), .lda 13 (.tmp 2), none⟩,
       ⟨(some 13), .call (.const (.fn 31 [] [])) [(.inr (.tmp 12))], none⟩,
       ⟨(some 3), .take 13, none⟩])
    (.ret)))
def a_model_Check_1 : AFn := ⟨14, [.tmp 3], c_model_Check_1, false⟩
theorem t_model_Check_1 : cFn Tryz.prog takesW Tryz.f29 = some a_model_Check_1 := by kernel_rfl
theorem n_model_Check_1 : (Tryz.f29.name == "runtime.NumGoroutine") = false := by kernel_rfl
def c_model_each_api_SiteDecl__l0b : ACode :=
  .seq (.region false [⟨(some 17), .bin .lss .prim (.tmp 16) (.tmp 15), none⟩])
  (.seq (.cond (.tmp 17) (.skip)
    (.exit 0))
   (.seq (.block 1 (.seq (.region false [⟨(some 18), .ia (.slice 13) (.tmp 14) (.tmp 16), none⟩,
         ⟨(some 19), .lda 13 (.tmp 18), none⟩,
         ⟨(some 8), .mk 42 [(.str []), (.own 3 []), (.own 17 []), (.own 3 []), (.own 3 []), (.own 1 []), (.own 1 []), (.own 1 []), (.own 1 []), (.own 1 []), (.own 4 []), (.own 5 []), (.own 3 [])], none⟩,
         ⟨none, .st 13 (.tmp 8) (.tmp 19), none⟩])
      (.seq (.region false [⟨(some 20), .mv (.tmp 2), none⟩,
          ⟨(some 21), .lda 13 (.tmp 8), none⟩,
          ⟨(some 22), .call (.tmp 20) [(.inr (.tmp 21))], none⟩,
          ⟨(some 9), .take 22, none⟩])
       (.seq (.region false [⟨(some 23), .mv (.tmp 9), none⟩,
           ⟨(some 24), .bin .neq .prim (.tmp 23) (.const (.int .i64 0)), none⟩])
        (.cond (.tmp 24) (.seq (.region false [⟨(some 25), .take 9, none⟩,
             ⟨(some 6), .take 25, none⟩])
          (.ret))
         (.skip))))))
    (.region false [⟨(some 26), .bin .add .prim (.tmp 16) (.const (.int .i64 1)), none⟩,
       ⟨(some 16), .mv (.tmp 26), none⟩])))
def c_model_each_api_SiteDecl__l0 : ACode := .loop c_model_each_api_SiteDecl__l0b
def c_model_each_api_SiteDecl__j1 : ACode :=
  .seq (.region false [⟨(some 6), .mv (.const (.int .i64 0)), none⟩])
  (.ret)
/-- simulator/model.each[simulator/api.SiteDecl] -/
def c_model_each_api_SiteDecl_ : ACode :=
  .seq (.region false [⟨(some 6), .mv (.const (.int .i64 0)), none⟩])
  (.seq (.seq (.region false [⟨(some 10), .mv (.tmp 0), none⟩,
       ⟨(some 11), .len .slice (.tmp 10), none⟩,
       ⟨(some 12), .mv (.tmp 1), none⟩,
       ⟨(some 13), .bin .gtr .prim (.tmp 11) (.tmp 12), none⟩])
    (.cond (.tmp 13) (.seq (.region false [⟨(some 6), .mv (.const (.int .i64 6)), none⟩])
      (.ret))
     (.skip)))
   (.seq (.seq (.region false [⟨(some 14), .mv (.tmp 0), none⟩,
        ⟨(some 15), .len .slice (.tmp 14), none⟩,
        ⟨(some 16), .mv (.const (.int .i64 0)), none⟩])
     (.block 0 (c_model_each_api_SiteDecl__l0)))
    c_model_each_api_SiteDecl__j1))
def a_model_each_api_SiteDecl_ : AFn := ⟨27, [.tmp 6], c_model_each_api_SiteDecl_, false⟩
theorem t_model_each_api_SiteDecl_ : cFn Tryz.prog takesW Tryz.f28 = some a_model_each_api_SiteDecl_ := by kernel_rfl
theorem n_model_each_api_SiteDecl_ : (Tryz.f28.name == "runtime.NumGoroutine") = false := by kernel_rfl
/-- simulator/model.links -/
def c_model_links : ACode :=
  .seq (.region false [⟨(some 1), .box 26 4 (.tmp 0), none⟩,
     ⟨(some 2), .mv (.const (.int .i64 0)), none⟩])
  (.seq (.region false [⟨(some 4), .mkmap, none⟩,
      ⟨(some 3), .mk 127 [.nilm], none⟩,
      ⟨none, .stt (.tmp 3) 4, none⟩])
   (.seq (.region false [⟨(some 5), .fa 3 (.tmp 1), none⟩,
       ⟨(some 6), .ldc (.tmp 5), none⟩,
       ⟨(some 7), .mkfn 90 [] [(.tmp 1), (.tmp 3)], none⟩,
       ⟨(some 8), .call (.const (.fn 89 [] [])) [(.inr (.tmp 6)), (.inr (.const (.int .i64 32))), (.inr (.tmp 7))], none⟩,
       ⟨(some 2), .take 8, none⟩])
    (.ret)))
def a_model_links : AFn := ⟨9, [.tmp 2], c_model_links, false⟩
theorem t_model_links : cFn Tryz.prog takesW Tryz.f32 = some a_model_links := by kernel_rfl
theorem n_model_links : (Tryz.f32.name == "runtime.NumGoroutine") = false := by kernel_rfl
def c_slices_Equal_Lapi_Value_api_Value__l0b : ACode :=
  .seq (.region false [⟨(some 14), .bin .lss .prim (.tmp 13) (.tmp 12), none⟩])
  (.seq (.cond (.tmp 14) (.skip)
    (.exit 0))
   (.seq (.block 1 (.seq (.region false [⟨(some 15), .mv (.tmp 13), none⟩,
         ⟨(some 5), .take 15, none⟩])
      (.seq (.region true [⟨(some 16), .mv (.tmp 0), none⟩,
          ⟨(some 17), .mv (.tmp 5), none⟩,
          ⟨(some 18), .ia (.slice 3) (.tmp 16) (.tmp 17), none⟩,
          ⟨(some 19), .lda 3 (.tmp 18), none⟩,
          ⟨(some 20), .mv (.tmp 1), none⟩,
          ⟨(some 21), .mv (.tmp 5), none⟩,
          ⟨(some 22), .ia (.slice 3) (.tmp 20) (.tmp 21), none⟩,
          ⟨(some 23), .lda 3 (.tmp 22), none⟩,
          ⟨(some 24), .bin .neq (.struct [.str, .int, .int]) (.tmp 19) (.tmp 23), none⟩])
       (.cond (.tmp 24) (.seq (.region false [⟨(some 4), .mv (.const (.bool false)), none⟩])
         (.ret))
        (.skip)))))
    (.region false [⟨(some 25), .bin .add .prim (.tmp 13) (.const (.int .i64 1)), none⟩,
       ⟨(some 13), .mv (.tmp 25), none⟩])))
def c_slices_Equal_Lapi_Value_api_Value__l0 : ACode := .loop c_slices_Equal_Lapi_Value_api_Value__l0b
def c_slices_Equal_Lapi_Value_api_Value__j1 : ACode :=
  .seq (.region false [⟨(some 4), .mv (.const (.bool true)), none⟩])
  (.ret)
/-- slices.Equal[[]simulator/api.Value,simulator/api.Value] -/
def c_slices_Equal_Lapi_Value_api_Value_ : ACode :=
  .seq (.region false [⟨(some 4), .mv (.const (.bool false)), none⟩])
  (.seq (.seq (.region false [⟨(some 6), .mv (.tmp 0), none⟩,
       ⟨(some 7), .len .slice (.tmp 6), none⟩,
       ⟨(some 8), .mv (.tmp 1), none⟩,
       ⟨(some 9), .len .slice (.tmp 8), none⟩,
       ⟨(some 10), .bin .neq .prim (.tmp 7) (.tmp 9), none⟩])
    (.cond (.tmp 10) (.seq (.region false [⟨(some 4), .mv (.const (.bool false)), none⟩])
      (.ret))
     (.skip)))
   (.seq (.seq (.region false [⟨(some 11), .mv (.tmp 0), none⟩,
        ⟨(some 12), .len .slice (.tmp 11), none⟩,
        ⟨(some 13), .mv (.const (.int .i64 0)), none⟩])
     (.block 0 (c_slices_Equal_Lapi_Value_api_Value__l0)))
    c_slices_Equal_Lapi_Value_api_Value__j1))
def a_slices_Equal_Lapi_Value_api_Value_ : AFn := ⟨26, [.tmp 4], c_slices_Equal_Lapi_Value_api_Value_, false⟩
theorem t_slices_Equal_Lapi_Value_api_Value_ : cFn Tryz.prog takesW Tryz.f48 = some a_slices_Equal_Lapi_Value_api_Value_ := by kernel_rfl
theorem n_slices_Equal_Lapi_Value_api_Value_ : (Tryz.f48.name == "runtime.NumGoroutine") = false := by kernel_rfl
def c_slices_EqualFunc_Lapi_SiteDecl_Lapi_SiteDecl_api_SiteDecl_api_SiteDecl__l0b : ACode :=
  .seq (.region false [⟨(some 18), .bin .lss .prim (.tmp 17) (.tmp 16), none⟩])
  (.seq (.cond (.tmp 18) (.skip)
    (.exit 0))
   (.seq (.block 1 (.seq (.region false [⟨(some 19), .mv (.tmp 17), none⟩,
         ⟨(some 20), .ia (.slice 13) (.tmp 15) (.tmp 17), none⟩,
         ⟨(some 21), .lda 13 (.tmp 20), none⟩,
         ⟨(some 8), .mk 42 [(.str []), (.own 3 []), (.own 17 []), (.own 3 []), (.own 3 []), (.own 1 []), (.own 1 []), (.own 1 []), (.own 1 []), (.own 1 []), (.own 4 []), (.own 5 []), (.own 3 [])], none⟩,
         ⟨(some 7), .take 19, none⟩,
         ⟨none, .st 13 (.tmp 8) (.tmp 21), none⟩])
      (.seq (.region false [⟨(some 22), .mv (.tmp 1), none⟩,
          ⟨(some 23), .mv (.tmp 7), none⟩,
          ⟨(some 24), .ia (.slice 13) (.tmp 22) (.tmp 23), none⟩,
          ⟨(some 25), .lda 13 (.tmp 24), none⟩,
          ⟨(some 9), .mk 42 [(.str []), (.own 3 []), (.own 17 []), (.own 3 []), (.own 3 []), (.own 1 []), (.own 1 []), (.own 1 []), (.own 1 []), (.own 1 []), (.own 4 []), (.own 5 []), (.own 3 [])], none⟩,
          ⟨none, .st 13 (.tmp 9) (.tmp 25), none⟩])
       (.seq (.region false [⟨(some 26), .mv (.tmp 2), none⟩,
           ⟨(some 27), .lda 13 (.tmp 8), none⟩,
           ⟨(some 28), .lda 13 (.tmp 9), none⟩,
           ⟨(some 29), .call (.tmp 26) [(.inr (.tmp 27)), (.inr (.tmp 28))], none⟩,
           ⟨(some 30), .un .not (.tmp 29), none⟩])
        (.cond (.tmp 30) (.seq (.region false [⟨(some 6), .mv (.const (.bool false)), none⟩])
          (.ret))
         (.skip))))))
    (.region false [⟨(some 31), .bin .add .prim (.tmp 17) (.const (.int .i64 1)), none⟩,
       ⟨(some 17), .mv (.tmp 31), none⟩])))
def c_slices_EqualFunc_Lapi_SiteDecl_Lapi_SiteDecl_api_SiteDecl_api_SiteDecl__l0 : ACode := .loop c_slices_EqualFunc_Lapi_SiteDecl_Lapi_SiteDecl_api_SiteDecl_api_SiteDecl__l0b
def c_slices_EqualFunc_Lapi_SiteDecl_Lapi_SiteDecl_api_SiteDecl_api_SiteDecl__j1 : ACode :=
  .seq (.region false [⟨(some 6), .mv (.const (.bool true)), none⟩])
  (.ret)
/-- slices.EqualFunc[[]simulator/api.SiteDecl,[]simulator/api.SiteDecl,simulator/api.SiteDecl,simulator/api.SiteDecl] -/
def c_slices_EqualFunc_Lapi_SiteDecl_Lapi_SiteDecl_api_SiteDecl_api_SiteDecl_ : ACode :=
  .seq (.region false [⟨(some 6), .mv (.const (.bool false)), none⟩])
  (.seq (.seq (.region false [⟨(some 10), .mv (.tmp 0), none⟩,
       ⟨(some 11), .len .slice (.tmp 10), none⟩,
       ⟨(some 12), .mv (.tmp 1), none⟩,
       ⟨(some 13), .len .slice (.tmp 12), none⟩,
       ⟨(some 14), .bin .neq .prim (.tmp 11) (.tmp 13), none⟩])
    (.cond (.tmp 14) (.seq (.region false [⟨(some 6), .mv (.const (.bool false)), none⟩])
      (.ret))
     (.skip)))
   (.seq (.seq (.region false [⟨(some 15), .mv (.tmp 0), none⟩,
        ⟨(some 16), .len .slice (.tmp 15), none⟩,
        ⟨(some 17), .mv (.const (.int .i64 0)), none⟩])
     (.block 0 (c_slices_EqualFunc_Lapi_SiteDecl_Lapi_SiteDecl_api_SiteDecl_api_SiteDecl__l0)))
    c_slices_EqualFunc_Lapi_SiteDecl_Lapi_SiteDecl_api_SiteDecl_api_SiteDecl__j1))
def a_slices_EqualFunc_Lapi_SiteDecl_Lapi_SiteDecl_api_SiteDecl_api_SiteDecl_ : AFn := ⟨32, [.tmp 6], c_slices_EqualFunc_Lapi_SiteDecl_Lapi_SiteDecl_api_SiteDecl_api_SiteDecl_, false⟩
theorem t_slices_EqualFunc_Lapi_SiteDecl_Lapi_SiteDecl_api_SiteDecl_api_SiteDecl_ : cFn Tryz.prog takesW Tryz.f49 = some a_slices_EqualFunc_Lapi_SiteDecl_Lapi_SiteDecl_api_SiteDecl_api_SiteDecl_ := by kernel_rfl
theorem n_slices_EqualFunc_Lapi_SiteDecl_Lapi_SiteDecl_api_SiteDecl_api_SiteDecl_ : (Tryz.f49.name == "runtime.NumGoroutine") = false := by kernel_rfl
/-- simulator/model.sameSite -/
def c_model_sameSite : ACode :=
  .seq (.region false [⟨(some 2), .box 42 13 (.tmp 0), none⟩,
     ⟨(some 3), .box 42 13 (.tmp 1), none⟩,
     ⟨(some 4), .mv (.const (.bool false)), none⟩])
  (.seq (.region false [⟨(some 5), .fa 0 (.tmp 2), none⟩,
      ⟨(some 6), .ldc (.tmp 5), none⟩,
      ⟨(some 7), .fa 0 (.tmp 3), none⟩,
      ⟨(some 8), .ldc (.tmp 7), none⟩,
      ⟨(some 9), .bin .eql .prim (.tmp 6) (.tmp 8), none⟩,
      ⟨(some 10), .mv (.tmp 9), none⟩,
      ⟨(some 11), .fa 1 (.tmp 2), (some (10, true))⟩,
      ⟨(some 12), .ldc (.tmp 11), (some (10, true))⟩,
      ⟨(some 13), .fa 1 (.tmp 3), (some (10, true))⟩,
      ⟨(some 14), .ldc (.tmp 13), (some (10, true))⟩,
      ⟨(some 15), .call (.const (.fn 48 [] [])) [(.inr (.tmp 12)), (.inr (.tmp 14))], (some (10, true))⟩,
      ⟨(some 16), .pick (.tmp 10) (.tmp 15) (.const (.bool false)), none⟩,
      ⟨(some 17), .mv (.tmp 16), none⟩,
      ⟨(some 18), .fa 2 (.tmp 2), (some (17, true))⟩,
      ⟨(some 19), .ldc (.tmp 18), (some (17, true))⟩,
      ⟨(some 20), .fa 2 (.tmp 3), (some (17, true))⟩,
      ⟨(some 21), .ldc (.tmp 20), (some (17, true))⟩,
      ⟨(some 22), .call (.const (.fn 108 [] [])) [(.inr (.tmp 19)), (.inr (.tmp 21)), (.inr (.const (.fn 109 [] [])))], (some (17, true))⟩,
      ⟨(some 23), .pick (.tmp 17) (.tmp 22) (.const (.bool false)), none⟩,
      ⟨(some 24), .mv (.tmp 23), none⟩,
      ⟨(some 25), .fa 3 (.tmp 2), (some (24, true))⟩,
      ⟨(some 26), .ldc (.tmp 25), (some (24, true))⟩,
      ⟨(some 27), .fa 3 (.tmp 3), (some (24, true))⟩,
      ⟨(some 28), .ldc (.tmp 27), (some (24, true))⟩,
      ⟨(some 29), .call (.const (.fn 110 [] [])) [(.inr (.tmp 26)), (.inr (.tmp 28))], (some (24, true))⟩,
      ⟨(some 30), .pick (.tmp 24) (.tmp 29) (.const (.bool false)), none⟩,
      ⟨(some 31), .mv (.tmp 30), none⟩,
      ⟨(some 32), .fa 4 (.tmp 2), (some (31, true))⟩,
      ⟨(some 33), .ldc (.tmp 32), (some (31, true))⟩,
      ⟨(some 34), .fa 4 (.tmp 3), (some (31, true))⟩,
      ⟨(some 35), .ldc (.tmp 34), (some (31, true))⟩,
      ⟨(some 36), .call (.const (.fn 111 [] [])) [(.inr (.tmp 33)), (.inr (.tmp 35))], (some (31, true))⟩,
      ⟨(some 37), .pick (.tmp 31) (.tmp 36) (.const (.bool false)), none⟩,
      ⟨(some 38), .mv (.tmp 37), none⟩,
      ⟨(some 39), .fa 5 (.tmp 2), (some (38, true))⟩,
      ⟨(some 40), .ldc (.tmp 39), (some (38, true))⟩,
      ⟨(some 41), .fa 5 (.tmp 3), (some (38, true))⟩,
      ⟨(some 42), .ldc (.tmp 41), (some (38, true))⟩,
      ⟨(some 43), .call (.const (.fn 112 [] [])) [(.inr (.tmp 40)), (.inr (.tmp 42))], (some (38, true))⟩,
      ⟨(some 44), .pick (.tmp 38) (.tmp 43) (.const (.bool false)), none⟩,
      ⟨(some 45), .mv (.tmp 44), none⟩,
      ⟨(some 46), .fa 6 (.tmp 2), (some (45, true))⟩,
      ⟨(some 47), .ldc (.tmp 46), (some (45, true))⟩,
      ⟨(some 48), .fa 6 (.tmp 3), (some (45, true))⟩,
      ⟨(some 49), .ldc (.tmp 48), (some (45, true))⟩,
      ⟨(some 50), .call (.const (.fn 112 [] [])) [(.inr (.tmp 47)), (.inr (.tmp 49))], (some (45, true))⟩,
      ⟨(some 51), .pick (.tmp 45) (.tmp 50) (.const (.bool false)), none⟩,
      ⟨(some 52), .mv (.tmp 51), none⟩,
      ⟨(some 53), .fa 7 (.tmp 2), (some (52, true))⟩,
      ⟨(some 54), .ldc (.tmp 53), (some (52, true))⟩,
      ⟨(some 55), .fa 7 (.tmp 3), (some (52, true))⟩,
      ⟨(some 56), .ldc (.tmp 55), (some (52, true))⟩,
      ⟨(some 57), .call (.const (.fn 112 [] [])) [(.inr (.tmp 54)), (.inr (.tmp 56))], (some (52, true))⟩,
      ⟨(some 58), .pick (.tmp 52) (.tmp 57) (.const (.bool false)), none⟩,
      ⟨(some 59), .mv (.tmp 58), none⟩,
      ⟨(some 60), .fa 8 (.tmp 2), (some (59, true))⟩,
      ⟨(some 61), .ldc (.tmp 60), (some (59, true))⟩,
      ⟨(some 62), .fa 8 (.tmp 3), (some (59, true))⟩,
      ⟨(some 63), .ldc (.tmp 62), (some (59, true))⟩,
      ⟨(some 64), .call (.const (.fn 112 [] [])) [(.inr (.tmp 61)), (.inr (.tmp 63))], (some (59, true))⟩,
      ⟨(some 65), .pick (.tmp 59) (.tmp 64) (.const (.bool false)), none⟩,
      ⟨(some 66), .mv (.tmp 65), none⟩,
      ⟨(some 67), .fa 9 (.tmp 2), (some (66, true))⟩,
      ⟨(some 68), .ldc (.tmp 67), (some (66, true))⟩,
      ⟨(some 69), .fa 9 (.tmp 3), (some (66, true))⟩,
      ⟨(some 70), .ldc (.tmp 69), (some (66, true))⟩,
      ⟨(some 71), .call (.const (.fn 112 [] [])) [(.inr (.tmp 68)), (.inr (.tmp 70))], (some (66, true))⟩,
      ⟨(some 72), .pick (.tmp 66) (.tmp 71) (.const (.bool false)), none⟩,
      ⟨(some 73), .mv (.tmp 72), none⟩,
      ⟨(some 74), .fa 10 (.tmp 2), (some (73, true))⟩,
      ⟨(some 75), .ldc (.tmp 74), (some (73, true))⟩,
      ⟨(some 76), .fa 10 (.tmp 3), (some (73, true))⟩,
      ⟨(some 77), .ldc (.tmp 76), (some (73, true))⟩,
      ⟨(some 78), .call (.const (.fn 113 [] [])) [(.inr (.tmp 75)), (.inr (.tmp 77)), (.inr (.const (.fn 114 [] [])))], (some (73, true))⟩,
      ⟨(some 79), .pick (.tmp 73) (.tmp 78) (.const (.bool false)), none⟩,
      ⟨(some 80), .mv (.tmp 79), none⟩,
      ⟨(some 81), .fa 11 (.tmp 2), (some (80, true))⟩,
      ⟨(some 82), .ldc (.tmp 81), (some (80, true))⟩,
      ⟨(some 83), .fa 11 (.tmp 3), (some (80, true))⟩,
      ⟨(some 84), .ldc (.tmp 83), (some (80, true))⟩,
      ⟨(some 85), .call (.const (.fn 115 [] [])) [(.inr (.tmp 82)), (.inr (.tmp 84)), (.inr (.const (.fn 116 [] [])))], (some (80, true))⟩,
      ⟨(some 86), .pick (.tmp 80) (.tmp 85) (.const (.bool false)), none⟩,
      ⟨(some 87), .mv (.tmp 86), none⟩,
      ⟨(some 88), .fa 12 (.tmp 2), (some (87, true))⟩,
      ⟨(some 89), .ldc (.tmp 88), (some (87, true))⟩,
      ⟨(some 90), .fa 12 (.tmp 3), (some (87, true))⟩,
      ⟨(some 91), .ldc (.tmp 90), (some (87, true))⟩,
      ⟨(some 92), .call (.const (.fn 117 [] [])) [(.inr (.tmp 89)), (.inr (.tmp 91)), (.inr (.const (.fn 118 [] [])))], (some (87, true))⟩,
      ⟨(some 93), .pick (.tmp 87) (.tmp 92) (.const (.bool false)), none⟩,
      ⟨(some 4), .take 93, none⟩])
   (.ret))
def a_model_sameSite : AFn := ⟨94, [.tmp 4], c_model_sameSite, false⟩
theorem t_model_sameSite : cFn Tryz.prog takesW Tryz.f50 = some a_model_sameSite := by kernel_rfl
theorem n_model_sameSite : (Tryz.f50.name == "runtime.NumGoroutine") = false := by kernel_rfl
def c_slices_Equal_Lapi_Link_api_Link__l0b : ACode :=
  .seq (.region false [⟨(some 14), .bin .lss .prim (.tmp 13) (.tmp 12), none⟩])
  (.seq (.cond (.tmp 14) (.skip)
    (.exit 0))
   (.seq (.block 1 (.seq (.region false [⟨(some 15), .mv (.tmp 13), none⟩,
         ⟨(some 5), .take 15, none⟩])
      (.seq (.region true [⟨(some 16), .mv (.tmp 0), none⟩,
          ⟨(some 17), .mv (.tmp 5), none⟩,
          ⟨(some 18), .ia (.slice 3) (.tmp 16) (.tmp 17), none⟩,
          ⟨(some 19), .lda 3 (.tmp 18), none⟩,
          ⟨(some 20), .mv (.tmp 1), none⟩,
          ⟨(some 21), .mv (.tmp 5), none⟩,
          ⟨(some 22), .ia (.slice 3) (.tmp 20) (.tmp 21), none⟩,
          ⟨(some 23), .lda 3 (.tmp 22), none⟩,
          ⟨(some 24), .bin .neq (.struct [.str, .str, .int]) (.tmp 19) (.tmp 23), none⟩])
       (.cond (.tmp 24) (.seq (.region false [⟨(some 4), .mv (.const (.bool false)), none⟩])
         (.ret))
        (.skip)))))
    (.region false [⟨(some 25), .bin .add .prim (.tmp 13) (.const (.int .i64 1)), none⟩,
       ⟨(some 13), .mv (.tmp 25), none⟩])))
def c_slices_Equal_Lapi_Link_api_Link__l0 : ACode := .loop c_slices_Equal_Lapi_Link_api_Link__l0b
def c_slices_Equal_Lapi_Link_api_Link__j1 : ACode :=
  .seq (.region false [⟨(some 4), .mv (.const (.bool true)), none⟩])
  (.ret)
/-- slices.Equal[[]simulator/api.Link,simulator/api.Link] -/
def c_slices_Equal_Lapi_Link_api_Link_ : ACode :=
  .seq (.region false [⟨(some 4), .mv (.const (.bool false)), none⟩])
  (.seq (.seq (.region false [⟨(some 6), .mv (.tmp 0), none⟩,
       ⟨(some 7), .len .slice (.tmp 6), none⟩,
       ⟨(some 8), .mv (.tmp 1), none⟩,
       ⟨(some 9), .len .slice (.tmp 8), none⟩,
       ⟨(some 10), .bin .neq .prim (.tmp 7) (.tmp 9), none⟩])
    (.cond (.tmp 10) (.seq (.region false [⟨(some 4), .mv (.const (.bool false)), none⟩])
      (.ret))
     (.skip)))
   (.seq (.seq (.region false [⟨(some 11), .mv (.tmp 0), none⟩,
        ⟨(some 12), .len .slice (.tmp 11), none⟩,
        ⟨(some 13), .mv (.const (.int .i64 0)), none⟩])
     (.block 0 (c_slices_Equal_Lapi_Link_api_Link__l0)))
    c_slices_Equal_Lapi_Link_api_Link__j1))
def a_slices_Equal_Lapi_Link_api_Link_ : AFn := ⟨26, [.tmp 4], c_slices_Equal_Lapi_Link_api_Link_, false⟩
theorem t_slices_Equal_Lapi_Link_api_Link_ : cFn Tryz.prog takesW Tryz.f51 = some a_slices_Equal_Lapi_Link_api_Link_ := by kernel_rfl
theorem n_slices_Equal_Lapi_Link_api_Link_ : (Tryz.f51.name == "runtime.NumGoroutine") = false := by kernel_rfl
/-- simulator/names.letter -/
def c_names_letter : ACode :=
  .seq (.region false [⟨(some 2), .mv (.const (.bool false)), none⟩])
  (.seq (.region false [⟨(some 3), .mv (.tmp 0), none⟩,
      ⟨(some 4), .bin .geq .prim (.tmp 3) (.const (.int .u8 97)), none⟩,
      ⟨(some 5), .mv (.tmp 4), none⟩,
      ⟨(some 6), .mv (.tmp 0), (some (5, true))⟩,
      ⟨(some 7), .bin .leq .prim (.tmp 6) (.const (.int .u8 122)), (some (5, true))⟩,
      ⟨(some 8), .pick (.tmp 5) (.tmp 7) (.const (.bool false)), none⟩,
      ⟨(some 2), .take 8, none⟩])
   (.ret))
def a_names_letter : AFn := ⟨9, [.tmp 2], c_names_letter, false⟩
theorem t_names_letter : cFn Tryz.prog takesW Tryz.f54 = some a_names_letter := by kernel_rfl
theorem n_names_letter : (Tryz.f54.name == "runtime.NumGoroutine") = false := by kernel_rfl
/-- simulator/names.Keyword -/
def c_names_Keyword : ACode :=
  .seq (.region false [⟨(some 2), .mv (.const (.bool false)), none⟩])
  (.seq (.seq (.region false [⟨(some 3), .mv (.tmp 0), none⟩])
    (.block 0 (.seq (.seq (.region false [⟨(some 5), .bin .eql .prim (.tmp 3) (.const (.str [97, 100, 100])), none⟩,
          ⟨(some 4), .take 5, none⟩])
       (.cond (.tmp 4) (.skip)
        (.seq (.region false [⟨(some 6), .bin .eql .prim (.tmp 3) (.const (.str [97, 102, 116, 101, 114])), none⟩,
            ⟨(some 4), .take 6, none⟩])
         (.cond (.tmp 4) (.skip)
          (.seq (.region false [⟨(some 7), .bin .eql .prim (.tmp 3) (.const (.str [97, 110, 100])), none⟩,
              ⟨(some 4), .take 7, none⟩])
           (.cond (.tmp 4) (.skip)
            (.seq (.region false [⟨(some 8), .bin .eql .prim (.tmp 3) (.const (.str [97, 116])), none⟩,
                ⟨(some 4), .take 8, none⟩])
             (.cond (.tmp 4) (.skip)
              (.seq (.region false [⟨(some 9), .bin .eql .prim (.tmp 3) (.const (.str [98, 101, 108, 116])), none⟩,
                  ⟨(some 4), .take 9, none⟩])
               (.cond (.tmp 4) (.skip)
                (.seq (.region false [⟨(some 10), .bin .eql .prim (.tmp 3) (.const (.str [98, 111, 111, 108])), none⟩,
                    ⟨(some 4), .take 10, none⟩])
                 (.cond (.tmp 4) (.skip)
                  (.seq (.region false [⟨(some 11), .bin .eql .prim (.tmp 3) (.const (.str [99, 111, 110, 115, 101, 114, 118, 101])), none⟩,
                      ⟨(some 4), .take 11, none⟩])
                   (.cond (.tmp 4) (.skip)
                    (.seq (.region false [⟨(some 12), .bin .eql .prim (.tmp 3) (.const (.str [99, 111, 110, 115, 116])), none⟩,
                        ⟨(some 4), .take 12, none⟩])
                     (.cond (.tmp 4) (.skip)
                      (.seq (.region false [⟨(some 13), .bin .eql .prim (.tmp 3) (.const (.str [99, 111, 117, 110, 116])), none⟩,
                          ⟨(some 4), .take 13, none⟩])
                       (.cond (.tmp 4) (.skip)
                        (.seq (.region false [⟨(some 14), .bin .eql .prim (.tmp 3) (.const (.str [99, 121, 99, 108, 101])), none⟩,
                            ⟨(some 4), .take 14, none⟩])
                         (.cond (.tmp 4) (.skip)
                          (.seq (.region false [⟨(some 15), .bin .eql .prim (.tmp 3) (.const (.str [100, 111, 119, 110])), none⟩,
                              ⟨(some 4), .take 15, none⟩])
                           (.cond (.tmp 4) (.skip)
                            (.seq (.region false [⟨(some 16), .bin .eql .prim (.tmp 3) (.const (.str [100, 114, 97, 119])), none⟩,
                                ⟨(some 4), .take 16, none⟩])
                             (.cond (.tmp 4) (.skip)
                              (.seq (.region false [⟨(some 17), .bin .eql .prim (.tmp 3) (.const (.str [100, 117, 114])), none⟩,
                                  ⟨(some 4), .take 17, none⟩])
                               (.cond (.tmp 4) (.skip)
                                (.seq (.region false [⟨(some 18), .bin .eql .prim (.tmp 3) (.const (.str [101, 108, 115, 101])), none⟩,
                                    ⟨(some 4), .take 18, none⟩])
                                 (.cond (.tmp 4) (.skip)
                                  (.seq (.region false [⟨(some 19), .bin .eql .prim (.tmp 3) (.const (.str [101, 110, 100])), none⟩,
                                      ⟨(some 4), .take 19, none⟩])
                                   (.cond (.tmp 4) (.skip)
                                    (.seq (.region false [⟨(some 20), .bin .eql .prim (.tmp 3) (.const (.str [101, 118, 101, 114, 121])), none⟩,
                                        ⟨(some 4), .take 20, none⟩])
                                     (.cond (.tmp 4) (.skip)
                                      (.seq (.region false [⟨(some 21), .bin .eql .prim (.tmp 3) (.const (.str [102, 97, 108, 115, 101])), none⟩,
                                          ⟨(some 4), .take 21, none⟩])
                                       (.cond (.tmp 4) (.skip)
                                        (.seq (.region false [⟨(some 22), .bin .eql .prim (.tmp 3) (.const (.str [102, 97, 117, 108, 116])), none⟩,
                                            ⟨(some 4), .take 22, none⟩])
                                         (.cond (.tmp 4) (.skip)
                                          (.seq (.region false [⟨(some 23), .bin .eql .prim (.tmp 3) (.const (.str [102, 105, 102, 111])), none⟩,
                                              ⟨(some 4), .take 23, none⟩])
                                           (.cond (.tmp 4) (.skip)
                                            (.seq (.region false [⟨(some 24), .bin .eql .prim (.tmp 3) (.const (.str [102, 114, 101, 101])), none⟩,
                                                ⟨(some 4), .take 24, none⟩])
                                             (.cond (.tmp 4) (.skip)
                                              (.seq (.region false [⟨(some 25), .bin .eql .prim (.tmp 3) (.const (.str [102, 114, 111, 109])), none⟩,
                                                  ⟨(some 4), .take 25, none⟩])
                                               (.cond (.tmp 4) (.skip)
                                                (.seq (.region false [⟨(some 26), .bin .eql .prim (.tmp 3) (.const (.str [103, 101, 111, 109])), none⟩,
                                                    ⟨(some 4), .take 26, none⟩])
                                                 (.cond (.tmp 4) (.skip)
                                                  (.seq (.region false [⟨(some 27), .bin .eql .prim (.tmp 3) (.const (.str [103, 101, 116])), none⟩,
                                                      ⟨(some 4), .take 27, none⟩])
                                                   (.cond (.tmp 4) (.skip)
                                                    (.seq (.region false [⟨(some 28), .bin .eql .prim (.tmp 3) (.const (.str [104, 111, 108, 100])), none⟩,
                                                        ⟨(some 4), .take 28, none⟩])
                                                     (.cond (.tmp 4) (.skip)
                                                      (.seq (.region false [⟨(some 29), .bin .eql .prim (.tmp 3) (.const (.str [105, 102])), none⟩,
                                                          ⟨(some 4), .take 29, none⟩])
                                                       (.cond (.tmp 4) (.skip)
                                                        (.seq (.region false [⟨(some 30), .bin .eql .prim (.tmp 3) (.const (.str [105, 110, 116])), none⟩,
                                                            ⟨(some 4), .take 30, none⟩])
                                                         (.cond (.tmp 4) (.skip)
                                                          (.seq (.region false [⟨(some 31), .bin .eql .prim (.tmp 3) (.const (.str [105, 110, 116, 111])), none⟩,
                                                              ⟨(some 4), .take 31, none⟩])
                                                           (.cond (.tmp 4) (.skip)
                                                            (.seq (.region false [⟨(some 32), .bin .eql .prim (.tmp 3) (.const (.str [108, 101, 97, 115, 116])), none⟩,
                                                                ⟨(some 4), .take 32, none⟩])
                                                             (.cond (.tmp 4) (.skip)
                                                              (.seq (.region false [⟨(some 33), .bin .eql .prim (.tmp 3) (.const (.str [108, 101, 118, 101, 108])), none⟩,
                                                                  ⟨(some 4), .take 33, none⟩])
                                                               (.cond (.tmp 4) (.skip)
                                                                (.seq (.region false [⟨(some 34), .bin .eql .prim (.tmp 3) (.const (.str [108, 105, 102, 111])), none⟩,
                                                                    ⟨(some 4), .take 34, none⟩])
                                                                 (.cond (.tmp 4) (.skip)
                                                                  (.seq (.region false [⟨(some 35), .bin .eql .prim (.tmp 3) (.const (.str [108, 105, 110, 107])), none⟩,
                                                                      ⟨(some 4), .take 35, none⟩])
                                                                   (.cond (.tmp 4) (.skip)
                                                                    (.seq (.region false [⟨(some 36), .bin .eql .prim (.tmp 3) (.const (.str [108, 111, 99, 97, 108])), none⟩,
                                                                        ⟨(some 4), .take 36, none⟩])
                                                                     (.cond (.tmp 4) (.skip)
                                                                      (.seq (.region false [⟨(some 37), .bin .eql .prim (.tmp 3) (.const (.str [109, 97, 120])), none⟩,
                                                                          ⟨(some 4), .take 37, none⟩])
                                                                       (.cond (.tmp 4) (.skip)
                                                                        (.seq (.region false [⟨(some 38), .bin .eql .prim (.tmp 3) (.const (.str [109, 105, 110])), none⟩,
                                                                            ⟨(some 4), .take 38, none⟩])
                                                                         (.cond (.tmp 4) (.skip)
                                                                          (.seq (.region false [⟨(some 39), .bin .eql .prim (.tmp 3) (.const (.str [109, 111, 100, 101, 108])), none⟩,
                                                                              ⟨(some 4), .take 39, none⟩])
                                                                           (.cond (.tmp 4) (.skip)
                                                                            (.seq (.region false [⟨(some 40), .bin .eql .prim (.tmp 3) (.const (.str [110, 111, 116])), none⟩,
                                                                                ⟨(some 4), .take 40, none⟩])
                                                                             (.cond (.tmp 4) (.skip)
                                                                              (.seq (.region false [⟨(some 41), .bin .eql .prim (.tmp 3) (.const (.str [110, 111, 119])), none⟩,
                                                                                  ⟨(some 4), .take 41, none⟩])
                                                                               (.cond (.tmp 4) (.skip)
                                                                                (.seq (.region false [⟨(some 42), .bin .eql .prim (.tmp 3) (.const (.str [111, 98, 115, 101, 114, 118, 101])), none⟩,
                                                                                    ⟨(some 4), .take 42, none⟩])
                                                                                 (.cond (.tmp 4) (.skip)
                                                                                  (.seq (.region false [⟨(some 43), .bin .eql .prim (.tmp 3) (.const (.str [111, 114])), none⟩,
                                                                                      ⟨(some 4), .take 43, none⟩])
                                                                                   (.cond (.tmp 4) (.skip)
                                                                                    (.seq (.region false [⟨(some 44), .bin .eql .prim (.tmp 3) (.const (.str [112, 97, 114, 97, 109])), none⟩,
                                                                                        ⟨(some 4), .take 44, none⟩])
                                                                                     (.cond (.tmp 4) (.skip)
                                                                                      (.seq (.region false [⟨(some 45), .bin .eql .prim (.tmp 3) (.const (.str [112, 114, 101, 101, 109, 112, 116])), none⟩,
                                                                                          ⟨(some 4), .take 45, none⟩])
                                                                                       (.cond (.tmp 4) (.skip)
                                                                                        (.seq (.region false [⟨(some 46), .bin .eql .prim (.tmp 3) (.const (.str [112, 114, 105, 111])), none⟩,
                                                                                            ⟨(some 4), .take 46, none⟩])
                                                                                         (.cond (.tmp 4) (.skip)
                                                                                          (.seq (.region false [⟨(some 47), .bin .eql .prim (.tmp 3) (.const (.str [112, 117, 116])), none⟩,
                                                                                              ⟨(some 4), .take 47, none⟩])
                                                                                           (.cond (.tmp 4) (.skip)
                                                                                            (.seq (.region false [⟨(some 48), .bin .eql .prim (.tmp 3) (.const (.str [113, 117, 101, 117, 101])), none⟩,
                                                                                                ⟨(some 4), .take 48, none⟩])
                                                                                             (.cond (.tmp 4) (.skip)
                                                                                              (.seq (.region false [⟨(some 49), .bin .eql .prim (.tmp 3) (.const (.str [114, 101, 108, 101, 97, 115, 101])), none⟩,
                                                                                                  ⟨(some 4), .take 49, none⟩])
                                                                                               (.cond (.tmp 4) (.skip)
                                                                                                (.seq (.region false [⟨(some 50), .bin .eql .prim (.tmp 3) (.const (.str [114, 101, 115, 111, 117, 114, 99, 101])), none⟩,
                                                                                                    ⟨(some 4), .take 50, none⟩])
                                                                                                 (.cond (.tmp 4) (.skip)
                                                                                                  (.seq (.region false [⟨(some 51), .bin .eql .prim (.tmp 3) (.const (.str [114, 105, 100, 101])), none⟩,
                                                                                                      ⟨(some 4), .take 51, none⟩])
                                                                                                   (.cond (.tmp 4) (.skip)
                                                                                                    (.seq (.region false [⟨(some 52), .bin .eql .prim (.tmp 3) (.const (.str [114, 111, 117, 116, 105, 110, 101])), none⟩,
                                                                                                        ⟨(some 4), .take 52, none⟩])
                                                                                                     (.cond (.tmp 4) (.skip)
                                                                                                      (.seq (.region false [⟨(some 53), .bin .eql .prim (.tmp 3) (.const (.str [115, 101, 105, 122, 101])), none⟩,
                                                                                                          ⟨(some 4), .take 53, none⟩])
                                                                                                       (.cond (.tmp 4) (.skip)
                                                                                                        (.seq (.region false [⟨(some 54), .bin .eql .prim (.tmp 3) (.const (.str [115, 101, 110, 100])), none⟩,
                                                                                                            ⟨(some 4), .take 54, none⟩])
                                                                                                         (.cond (.tmp 4) (.skip)
                                                                                                          (.seq (.region false [⟨(some 55), .bin .eql .prim (.tmp 3) (.const (.str [115, 101, 116])), none⟩,
                                                                                                              ⟨(some 4), .take 55, none⟩])
                                                                                                           (.cond (.tmp 4) (.skip)
                                                                                                            (.seq (.region false [⟨(some 56), .bin .eql .prim (.tmp 3) (.const (.str [115, 104, 105, 102, 116])), none⟩,
                                                                                                                ⟨(some 4), .take 56, none⟩])
                                                                                                             (.cond (.tmp 4) (.skip)
                                                                                                              (.seq (.region false [⟨(some 57), .bin .eql .prim (.tmp 3) (.const (.str [115, 105, 103, 110, 97, 108])), none⟩,
                                                                                                                  ⟨(some 4), .take 57, none⟩])
                                                                                                               (.cond (.tmp 4) (.skip)
                                                                                                                (.seq (.region false [⟨(some 58), .bin .eql .prim (.tmp 3) (.const (.str [115, 105, 116, 101])), none⟩,
                                                                                                                    ⟨(some 4), .take 58, none⟩])
                                                                                                                 (.cond (.tmp 4) (.skip)
                                                                                                                  (.seq (.region false [⟨(some 59), .bin .eql .prim (.tmp 3) (.const (.str [115, 105, 122, 101])), none⟩,
                                                                                                                      ⟨(some 4), .take 59, none⟩])
                                                                                                                   (.cond (.tmp 4) (.skip)
                                                                                                                    (.seq (.region false [⟨(some 60), .bin .eql .prim (.tmp 3) (.const (.str [115, 112, 97, 119, 110])), none⟩,
                                                                                                                        ⟨(some 4), .take 60, none⟩])
                                                                                                                     (.cond (.tmp 4) (.skip)
                                                                                                                      (.seq (.region false [⟨(some 61), .bin .eql .prim (.tmp 3) (.const (.str [115, 116, 97, 114, 116])), none⟩,
                                                                                                                          ⟨(some 4), .take 61, none⟩])
                                                                                                                       (.cond (.tmp 4) (.skip)
                                                                                                                        (.seq (.region false [⟨(some 62), .bin .eql .prim (.tmp 3) (.const (.str [115, 116, 111, 112])), none⟩,
                                                                                                                            ⟨(some 4), .take 62, none⟩])
                                                                                                                         (.cond (.tmp 4) (.skip)
                                                                                                                          (.seq (.region false [⟨(some 63), .bin .eql .prim (.tmp 3) (.const (.str [115, 116, 111, 114, 101])), none⟩,
                                                                                                                              ⟨(some 4), .take 63, none⟩])
                                                                                                                           (.cond (.tmp 4) (.skip)
                                                                                                                            (.seq (.region false [⟨(some 64), .bin .eql .prim (.tmp 3) (.const (.str [115, 116, 114, 101, 97, 109])), none⟩,
                                                                                                                                ⟨(some 4), .take 64, none⟩])
                                                                                                                             (.cond (.tmp 4) (.skip)
                                                                                                                              (.seq (.region false [⟨(some 65), .bin .eql .prim (.tmp 3) (.const (.str [115, 117, 109])), none⟩,
                                                                                                                                  ⟨(some 4), .take 65, none⟩])
                                                                                                                               (.cond (.tmp 4) (.skip)
                                                                                                                                (.seq (.region false [⟨(some 66), .bin .eql .prim (.tmp 3) (.const (.str [116, 97, 98, 108, 101])), none⟩,
                                                                                                                                    ⟨(some 4), .take 66, none⟩])
                                                                                                                                 (.cond (.tmp 4) (.skip)
                                                                                                                                  (.seq (.region false [⟨(some 67), .bin .eql .prim (.tmp 3) (.const (.str [116, 97, 108, 108, 121])), none⟩,
                                                                                                                                      ⟨(some 4), .take 67, none⟩])
                                                                                                                                   (.cond (.tmp 4) (.skip)
                                                                                                                                    (.seq (.region false [⟨(some 68), .bin .eql .prim (.tmp 3) (.const (.str [116, 105, 99, 107, 115])), none⟩,
                                                                                                                                        ⟨(some 4), .take 68, none⟩])
                                                                                                                                     (.cond (.tmp 4) (.skip)
                                                                                                                                      (.seq (.region false [⟨(some 69), .bin .eql .prim (.tmp 3) (.const (.str [116, 105, 109, 101])), none⟩,
                                                                                                                                          ⟨(some 4), .take 69, none⟩])
                                                                                                                                       (.cond (.tmp 4) (.skip)
                                                                                                                                        (.seq (.region false [⟨(some 70), .bin .eql .prim (.tmp 3) (.const (.str [116, 114, 117, 101])), none⟩,
                                                                                                                                            ⟨(some 4), .take 70, none⟩])
                                                                                                                                         (.cond (.tmp 4) (.skip)
                                                                                                                                          (.seq (.region false [⟨(some 71), .bin .eql .prim (.tmp 3) (.const (.str [117, 110, 105, 102, 111, 114, 109])), none⟩,
                                                                                                                                              ⟨(some 4), .take 71, none⟩])
                                                                                                                                           (.cond (.tmp 4) (.skip)
                                                                                                                                            (.seq (.region false [⟨(some 72), .bin .eql .prim (.tmp 3) (.const (.str [117, 110, 116, 105, 108])), none⟩,
                                                                                                                                                ⟨(some 4), .take 72, none⟩])
                                                                                                                                             (.cond (.tmp 4) (.skip)
                                                                                                                                              (.seq (.region false [⟨(some 73), .bin .eql .prim (.tmp 3) (.const (.str [117, 112])), none⟩,
                                                                                                                                                  ⟨(some 4), .take 73, none⟩])
                                                                                                                                               (.cond (.tmp 4) (.skip)
                                                                                                                                                (.seq (.region false [⟨(some 74), .bin .eql .prim (.tmp 3) (.const (.str [118, 97, 114])), none⟩,
                                                                                                                                                    ⟨(some 4), .take 74, none⟩])
                                                                                                                                                 (.cond (.tmp 4) (.skip)
                                                                                                                                                  (.seq (.region false [⟨(some 75), .bin .eql .prim (.tmp 3) (.const (.str [119, 97, 105, 116])), none⟩,
                                                                                                                                                      ⟨(some 4), .take 75, none⟩])
                                                                                                                                                   (.cond (.tmp 4) (.skip)
                                                                                                                                                    (.seq (.region false [⟨(some 76), .bin .eql .prim (.tmp 3) (.const (.str [119, 97, 105, 116, 105, 110, 103])), none⟩,
                                                                                                                                                        ⟨(some 4), .take 76, none⟩])
                                                                                                                                                     (.cond (.tmp 4) (.skip)
                                                                                                                                                      (.region false [⟨(some 77), .bin .eql .prim (.tmp 3) (.const (.str [119, 104, 105, 108, 101])), none⟩,
                                                                                                                                                         ⟨(some 4), .take 77, none⟩])))))))))))))))))))))))))))))))))))))))))))))))))))))))))))))))))))))))))))))))))))))))))))))))))))))))))))))))))))))))))))))))))))))))))))))))))
      (.cond (.tmp 4) (.seq (.region false [⟨(some 2), .mv (.const (.bool true)), none⟩])
        (.ret))
       (.skip)))))
   (.seq (.region false [⟨(some 2), .mv (.const (.bool false)), none⟩])
    (.ret)))
def a_names_Keyword : AFn := ⟨78, [.tmp 2], c_names_Keyword, false⟩
theorem t_names_Keyword : cFn Tryz.prog takesW Tryz.f55 = some a_names_Keyword := by kernel_rfl
theorem n_names_Keyword : (Tryz.f55.name == "runtime.NumGoroutine") = false := by kernel_rfl
/-- (simulator/model.scope).value -/
def c__model_scope__value : ACode :=
  .seq (.region false [⟨(some 3), .box 69 3 (.tmp 1), none⟩,
     ⟨(some 4), .mv (.const (.int .i64 0)), none⟩])
  (.seq (.seq (.region false [⟨(some 6), .mv (.tmp 0), none⟩,
       ⟨(some 7), .fa 0 (.tmp 3), none⟩,
       ⟨(some 8), .ldc (.tmp 7), none⟩,
       ⟨(some 9), .call (.const (.fn 30 [] [])) [(.inr (.tmp 6)), (.inr (.tmp 8))], none⟩,
       ⟨(some 5), .take 9, none⟩])
    (.seq (.region false [⟨(some 10), .mv (.tmp 5), none⟩,
        ⟨(some 11), .bin .neq .prim (.tmp 10) (.const (.int .i64 0)), none⟩])
     (.cond (.tmp 11) (.seq (.region false [⟨(some 12), .take 5, none⟩,
          ⟨(some 4), .take 12, none⟩])
       (.ret))
      (.skip))))
   (.seq (.block 0 (.seq (.region false [⟨(some 14), .fa 1 (.tmp 3), none⟩,
         ⟨(some 15), .ldc (.tmp 14), none⟩,
         ⟨(some 16), .call (.const (.fn 125 [] [])) [(.inr (.tmp 15))], none⟩,
         ⟨(some 17), .un .not (.tmp 16), none⟩,
         ⟨(some 13), .take 17, none⟩])
      (.cond (.tmp 13) (.seq (.region false [⟨(some 4), .mv (.const (.int .i64 1)), none⟩])
        (.ret))
       (.seq (.region false [⟨(some 19), .fa 1 (.tmp 3), none⟩,
           ⟨(some 20), .ldc (.tmp 19), none⟩,
           ⟨(some 21), .fa 2 (.tmp 3), none⟩,
           ⟨(some 22), .ldc (.tmp 21), none⟩,
           ⟨(some 23), .call (.const (.fn 126 [] [])) [(.inr (.tmp 20)), (.inr (.tmp 22))], none⟩,
           ⟨(some 24), .un .not (.tmp 23), none⟩,
           ⟨(some 18), .take 24, none⟩])
        (.cond (.tmp 18) (.seq (.region false [⟨(some 4), .mv (.const (.int .i64 2)), none⟩])
          (.ret))
         (.skip))))))
    (.seq (.region false [⟨(some 4), .mv (.const (.int .i64 0)), none⟩])
     (.ret))))
def a__model_scope__value : AFn := ⟨25, [.tmp 4], c__model_scope__value, false⟩
theorem t__model_scope__value : cFn Tryz.prog takesW Tryz.f57 = some a__model_scope__value := by kernel_rfl
theorem n__model_scope__value : (Tryz.f57.name == "runtime.NumGoroutine") = false := by kernel_rfl
def c_model_each_api_Value__l0b : ACode :=
  .seq (.region false [⟨(some 17), .bin .lss .prim (.tmp 16) (.tmp 15), none⟩])
  (.seq (.cond (.tmp 17) (.skip)
    (.exit 0))
   (.seq (.block 1 (.seq (.region false [⟨(some 18), .ia (.slice 3) (.tmp 14) (.tmp 16), none⟩,
         ⟨(some 19), .lda 3 (.tmp 18), none⟩,
         ⟨(some 8), .mk 69 [(.str []), (.int .i64 0), (.int .i64 0)], none⟩,
         ⟨none, .st 3 (.tmp 8) (.tmp 19), none⟩])
      (.seq (.region false [⟨(some 20), .mv (.tmp 2), none⟩,
          ⟨(some 21), .lda 3 (.tmp 8), none⟩,
          ⟨(some 22), .call (.tmp 20) [(.inr (.tmp 21))], none⟩,
          ⟨(some 9), .take 22, none⟩])
       (.seq (.region false [⟨(some 23), .mv (.tmp 9), none⟩,
           ⟨(some 24), .bin .neq .prim (.tmp 23) (.const (.int .i64 0)), none⟩])
        (.cond (.tmp 24) (.seq (.region false [⟨(some 25), .take 9, none⟩,
             ⟨(some 6), .take 25, none⟩])
          (.ret))
         (.skip))))))
    (.region false [⟨(some 26), .bin .add .prim (.tmp 16) (.const (.int .i64 1)), none⟩,
       ⟨(some 16), .mv (.tmp 26), none⟩])))
def c_model_each_api_Value__l0 : ACode := .loop c_model_each_api_Value__l0b
def c_model_each_api_Value__j1 : ACode :=
  .seq (.region false [⟨(some 6), .mv (.const (.int .i64 0)), none⟩])
  (.ret)
/-- simulator/model.each[simulator/api.Value] -/
def c_model_each_api_Value_ : ACode :=
  .seq (.region false [⟨(some 6), .mv (.const (.int .i64 0)), none⟩])
  (.seq (.seq (.region false [⟨(some 10), .mv (.tmp 0), none⟩,
       ⟨(some 11), .len .slice (.tmp 10), none⟩,
       ⟨(some 12), .mv (.tmp 1), none⟩,
       ⟨(some 13), .bin .gtr .prim (.tmp 11) (.tmp 12), none⟩])
    (.cond (.tmp 13) (.seq (.region false [⟨(some 6), .mv (.const (.int .i64 6)), none⟩])
      (.ret))
     (.skip)))
   (.seq (.seq (.region false [⟨(some 14), .mv (.tmp 0), none⟩,
        ⟨(some 15), .len .slice (.tmp 14), none⟩,
        ⟨(some 16), .mv (.const (.int .i64 0)), none⟩])
     (.block 0 (c_model_each_api_Value__l0)))
    c_model_each_api_Value__j1))
def a_model_each_api_Value_ : AFn := ⟨27, [.tmp 6], c_model_each_api_Value_, false⟩
theorem t_model_each_api_Value_ : cFn Tryz.prog takesW Tryz.f56 = some a_model_each_api_Value_ := by kernel_rfl
theorem n_model_each_api_Value_ : (Tryz.f56.name == "runtime.NumGoroutine") = false := by kernel_rfl
/-- (simulator/model.scope).enter -/
def c__model_scope__enter : ACode :=
  .seq (.region false [⟨(some 4), .mv (.const (.int .i64 0)), none⟩])
  (.seq (.seq (.region false [⟨(some 6), .mv (.tmp 1), none⟩,
       ⟨(some 7), .call (.const (.fn 26 [] [])) [(.inr (.tmp 6))], none⟩,
       ⟨(some 5), .take 7, none⟩])
    (.seq (.region false [⟨(some 8), .mv (.tmp 5), none⟩,
        ⟨(some 9), .bin .neq .prim (.tmp 8) (.const (.int .i64 0)), none⟩])
     (.cond (.tmp 9) (.seq (.region false [⟨(some 10), .take 5, none⟩,
          ⟨(some 4), .take 10, none⟩])
       (.ret))
      (.skip))))
   (.seq (.seq (.region false [⟨(some 11), .mv (.tmp 0), none⟩,
        ⟨(some 12), .mv (.tmp 1), none⟩,
        ⟨(some 13), .look (.one .str) (.bool false) (.tmp 11) (.tmp 12) false, none⟩])
     (.cond (.tmp 13) (.seq (.region false [⟨(some 4), .mv (.const (.int .i64 4)), none⟩])
       (.ret))
      (.skip)))
    (.seq (.region false [⟨(some 14), .mv (.tmp 0), none⟩,
        ⟨(some 15), .mv (.tmp 1), none⟩,
        ⟨none, .mupd (.one .str) (.tmp 14) (.tmp 15) (.const (.bool true)), none⟩])
     (.seq (.region false [⟨(some 4), .mv (.const (.int .i64 0)), none⟩])
      (.ret)))))
def a__model_scope__enter : AFn := ⟨16, [.tmp 4], c__model_scope__enter, false⟩
theorem t__model_scope__enter : cFn Tryz.prog takesW Tryz.f30 = some a__model_scope__enter := by kernel_rfl
theorem n__model_scope__enter : (Tryz.f30.name == "runtime.NumGoroutine") = false := by kernel_rfl
/-- simulator/model.site -/
def c_model_site : ACode :=
  .seq (.region false [⟨(some 1), .box 42 13 (.tmp 0), none⟩,
     ⟨(some 2), .mv (.const (.int .i64 0)), none⟩])
  (.seq (.region false [⟨(some 5), .mkmap, none⟩,
      ⟨(some 3), .mk 60 [.nilm], none⟩,
      ⟨none, .stt (.tmp 3) 5, none⟩])
   (.seq (.region false [⟨(some 6), .mkfn 58 [] [(.tmp 3)], none⟩,
       ⟨(some 4), .mk 111 [.nilf], none⟩,
       ⟨none, .stt (.tmp 4) 6, none⟩])
    (.seq (.region false [⟨(some 7), .mkfn 61 [] [(.tmp 3), (.tmp 1)], none⟩,
        ⟨(some 8), .mkfn 62 [] [(.tmp 1), (.tmp 3)], none⟩,
        ⟨(some 9), .mkfn 68 [] [(.tmp 1), (.tmp 3)], none⟩,
        ⟨(some 10), .mkfn 71 [] [(.tmp 1), (.tmp 3)], none⟩,
        ⟨(some 11), .mkfn 74 [] [(.tmp 4), (.tmp 1)], none⟩,
        ⟨(some 12), .mkfn 75 [] [(.tmp 4), (.tmp 1)], none⟩,
        ⟨(some 13), .mkfn 76 [] [(.tmp 4), (.tmp 1)], none⟩,
        ⟨(some 14), .mkfn 77 [] [(.tmp 4), (.tmp 1)], none⟩,
        ⟨(some 15), .mkfn 78 [] [(.tmp 4), (.tmp 1)], none⟩,
        ⟨(some 16), .mkfn 79 [] [(.tmp 1), (.tmp 3)], none⟩,
        ⟨(some 17), .mkfn 83 [] [(.tmp 1)], none⟩,
        ⟨(some 18), .mkfn 87 [] [(.tmp 1)], none⟩,
        ⟨(some 19), .lit 113 1 [(.tmp 7), (.tmp 8), (.tmp 9), (.tmp 10), (.tmp 11), (.tmp 12), (.tmp 13), (.tmp 14), (.tmp 15), (.tmp 16), (.tmp 17), (.tmp 18)], none⟩,
        ⟨(some 20), .call (.const (.fn 60 [] [])) [(.inr (.tmp 19))], none⟩,
        ⟨(some 2), .take 20, none⟩])
     (.ret))))
def a_model_site : AFn := ⟨21, [.tmp 2], c_model_site, false⟩
theorem t_model_site : cFn Tryz.prog takesW Tryz.f31 = some a_model_site := by kernel_rfl
theorem n_model_site : (Tryz.f31.name == "runtime.NumGoroutine") = false := by kernel_rfl
/-- simulator/model.links$1 -/
def c_model_links_1 : ACode :=
  .seq (.region false [⟨(some 3), .box 49 3 (.tmp 0), none⟩,
     ⟨(some 4), .mv (.const (.int .i64 0)), none⟩])
  (.seq (.region false [⟨(some 6), .fa 0 (.tmp 3), none⟩,
      ⟨(some 7), .ldc (.tmp 6), none⟩,
      ⟨(some 8), .fa 1 (.tmp 3), none⟩,
      ⟨(some 9), .ldc (.tmp 8), none⟩,
      ⟨(some 10), .build [(.str []), (.str [])] [(0, 1, (.tmp 7)), (1, 1, (.tmp 9))], none⟩,
      ⟨(some 5), .mk 129 [(.str []), (.str [])], none⟩,
      ⟨none, .st 2 (.tmp 5) (.tmp 10), none⟩])
   (.seq (.block 0 (.seq (.region false [⟨(some 12), .lda 4 (.tmp 1), none⟩,
         ⟨(some 13), .fa 0 (.tmp 3), none⟩,
         ⟨(some 14), .ldc (.tmp 13), none⟩,
         ⟨(some 15), .call (.const (.fn 14 [] [])) [(.inr (.tmp 12)), (.inr (.tmp 14))], none⟩,
         ⟨(some 16), .bin .lss .prim (.tmp 15) (.const (.int .i64 0)), none⟩,
         ⟨(some 17), .mv (.tmp 16), none⟩,
         ⟨(some 18), .lda 4 (.tmp 1), (some (17, false))⟩,
         ⟨(some 19), .fa 1 (.tmp 3), (some (17, false))⟩,
         ⟨(some 20), .ldc (.tmp 19), (some (17, false))⟩,
         ⟨(some 21), .call (.const (.fn 14 [] [])) [(.inr (.tmp 18)), (.inr (.tmp 20))], (some (17, false))⟩,
         ⟨(some 22), .bin .lss .prim (.tmp 21) (.const (.int .i64 0)), (some (17, false))⟩,
         ⟨(some 23), .pick (.tmp 17) (.const (.bool true)) (.tmp 22), none⟩,
         ⟨(some 11), .take 23, none⟩])
      (.cond (.tmp 11) (.seq (.region false [⟨(some 4), .mv (.const (.int .i64 5)), none⟩])
        (.ret))
       (.seq (.region false [⟨(some 25), .fa 0 (.tmp 3), none⟩,
           ⟨(some 26), .ldc (.tmp 25), none⟩,
           ⟨(some 27), .fa 1 (.tmp 3), none⟩,
           ⟨(some 28), .ldc (.tmp 27), none⟩,
           ⟨(some 29), .bin .eql .prim (.tmp 26) (.tmp 28), none⟩,
           ⟨(some 24), .take 29, none⟩])
        (.cond (.tmp 24) (.seq (.region false [⟨(some 4), .mv (.const (.int .i64 1)), none⟩])
          (.ret))
         (.seq (.region false [⟨(some 31), .fa 2 (.tmp 3), none⟩,
             ⟨(some 32), .ldc (.tmp 31), none⟩,
             ⟨(some 33), .call (.const (.fn 65 [] [])) [(.inr (.tmp 32)), (.inr (.const (.int .i64 1))), (.inr (.const (.int .i64 1000000000)))], none⟩,
             ⟨(some 34), .un .not (.tmp 33), none⟩,
             ⟨(some 30), .take 34, none⟩])
          (.cond (.tmp 30) (.seq (.region false [⟨(some 4), .mv (.const (.int .i64 2)), none⟩])
            (.ret))
           (.seq (.region false [⟨(some 36), .ldc (.tmp 2), none⟩,
               ⟨(some 37), .lda 2 (.tmp 5), none⟩,
               ⟨(some 38), .look (.pair .str) (.bool false) (.tmp 36) (.tmp 37) false, none⟩,
               ⟨(some 35), .take 38, none⟩])
            (.cond (.tmp 35) (.seq (.region false [⟨(some 4), .mv (.const (.int .i64 4)), none⟩])
              (.ret))
             (.skip))))))))))
    (.seq (.region false [⟨(some 39), .ldc (.tmp 2), none⟩,
        ⟨(some 40), .lda 2 (.tmp 5), none⟩,
        ⟨none, .mupd (.pair .str) (.tmp 39) (.tmp 40) (.const (.bool true)), none⟩])
     (.seq (.region false [⟨(some 4), .mv (.const (.int .i64 0)), none⟩])
      (.ret)))))
def a_model_links_1 : AFn := ⟨41, [.tmp 4], c_model_links_1, false⟩
theorem t_model_links_1 : cFn Tryz.prog takesW Tryz.f90 = some a_model_links_1 := by kernel_rfl
theorem n_model_links_1 : (Tryz.f90.name == "runtime.NumGoroutine") = false := by kernel_rfl
def c_model_each_api_Link__l0b : ACode :=
  .seq (.region false [⟨(some 17), .bin .lss .prim (.tmp 16) (.tmp 15), none⟩])
  (.seq (.cond (.tmp 17) (.skip)
    (.exit 0))
   (.seq (.block 1 (.seq (.region false [⟨(some 18), .ia (.slice 3) (.tmp 14) (.tmp 16), none⟩,
         ⟨(some 19), .lda 3 (.tmp 18), none⟩,
         ⟨(some 8), .mk 49 [(.str []), (.str []), (.int .i64 0)], none⟩,
         ⟨none, .st 3 (.tmp 8) (.tmp 19), none⟩])
      (.seq (.region false [⟨(some 20), .mv (.tmp 2), none⟩,
          ⟨(some 21), .lda 3 (.tmp 8), none⟩,
          ⟨(some 22), .call (.tmp 20) [(.inr (.tmp 21))], none⟩,
          ⟨(some 9), .take 22, none⟩])
       (.seq (.region false [⟨(some 23), .mv (.tmp 9), none⟩,
           ⟨(some 24), .bin .neq .prim (.tmp 23) (.const (.int .i64 0)), none⟩])
        (.cond (.tmp 24) (.seq (.region false [⟨(some 25), .take 9, none⟩,
             ⟨(some 6), .take 25, none⟩])
          (.ret))
         (.skip))))))
    (.region false [⟨(some 26), .bin .add .prim (.tmp 16) (.const (.int .i64 1)), none⟩,
       ⟨(some 16), .mv (.tmp 26), none⟩])))
def c_model_each_api_Link__l0 : ACode := .loop c_model_each_api_Link__l0b
def c_model_each_api_Link__j1 : ACode :=
  .seq (.region false [⟨(some 6), .mv (.const (.int .i64 0)), none⟩])
  (.ret)
/-- simulator/model.each[simulator/api.Link] -/
def c_model_each_api_Link_ : ACode :=
  .seq (.region false [⟨(some 6), .mv (.const (.int .i64 0)), none⟩])
  (.seq (.seq (.region false [⟨(some 10), .mv (.tmp 0), none⟩,
       ⟨(some 11), .len .slice (.tmp 10), none⟩,
       ⟨(some 12), .mv (.tmp 1), none⟩,
       ⟨(some 13), .bin .gtr .prim (.tmp 11) (.tmp 12), none⟩])
    (.cond (.tmp 13) (.seq (.region false [⟨(some 6), .mv (.const (.int .i64 6)), none⟩])
      (.ret))
     (.skip)))
   (.seq (.seq (.region false [⟨(some 14), .mv (.tmp 0), none⟩,
        ⟨(some 15), .len .slice (.tmp 14), none⟩,
        ⟨(some 16), .mv (.const (.int .i64 0)), none⟩])
     (.block 0 (c_model_each_api_Link__l0)))
    c_model_each_api_Link__j1))
def a_model_each_api_Link_ : AFn := ⟨27, [.tmp 6], c_model_each_api_Link_, false⟩
theorem t_model_each_api_Link_ : cFn Tryz.prog takesW Tryz.f89 = some a_model_each_api_Link_ := by kernel_rfl
theorem n_model_each_api_Link_ : (Tryz.f89.name == "runtime.NumGoroutine") = false := by kernel_rfl
def c_slices_EqualFunc_Lapi_ResourceDecl_Lapi_ResourceDecl_api_ResourceDecl_api_ResourceDecl__l0b : ACode :=
  .seq (.region false [⟨(some 18), .bin .lss .prim (.tmp 17) (.tmp 16), none⟩])
  (.seq (.cond (.tmp 18) (.skip)
    (.exit 0))
   (.seq (.block 1 (.seq (.region false [⟨(some 19), .mv (.tmp 17), none⟩,
         ⟨(some 20), .ia (.slice 17) (.tmp 15) (.tmp 17), none⟩,
         ⟨(some 21), .lda 17 (.tmp 20), none⟩,
         ⟨(some 8), .mk 92 [(.str []), (.int .i64 0), (.own 2 []), (.int .i64 0), (.str []), (.int .i64 0), (.int .i64 0), (.int .i64 0), (.int .i64 0), (.own 1 []), (.own 1 []), (.int .i64 0), (.int .i64 0), (.int .i64 0), (.int .i64 0), (.own 1 []), (.own 1 [])], none⟩,
         ⟨(some 7), .take 19, none⟩,
         ⟨none, .st 17 (.tmp 8) (.tmp 21), none⟩])
      (.seq (.region false [⟨(some 22), .mv (.tmp 1), none⟩,
          ⟨(some 23), .mv (.tmp 7), none⟩,
          ⟨(some 24), .ia (.slice 17) (.tmp 22) (.tmp 23), none⟩,
          ⟨(some 25), .lda 17 (.tmp 24), none⟩,
          ⟨(some 9), .mk 92 [(.str []), (.int .i64 0), (.own 2 []), (.int .i64 0), (.str []), (.int .i64 0), (.int .i64 0), (.int .i64 0), (.int .i64 0), (.own 1 []), (.own 1 []), (.int .i64 0), (.int .i64 0), (.int .i64 0), (.int .i64 0), (.own 1 []), (.own 1 [])], none⟩,
          ⟨none, .st 17 (.tmp 9) (.tmp 25), none⟩])
       (.seq (.region false [⟨(some 26), .mv (.tmp 2), none⟩,
           ⟨(some 27), .lda 17 (.tmp 8), none⟩,
           ⟨(some 28), .lda 17 (.tmp 9), none⟩,
           ⟨(some 29), .call (.tmp 26) [(.inr (.tmp 27)), (.inr (.tmp 28))], none⟩,
           ⟨(some 30), .un .not (.tmp 29), none⟩])
        (.cond (.tmp 30) (.seq (.region false [⟨(some 6), .mv (.const (.bool false)), none⟩])
          (.ret))
         (.skip))))))
    (.region false [⟨(some 31), .bin .add .prim (.tmp 17) (.const (.int .i64 1)), none⟩,
       ⟨(some 17), .mv (.tmp 31), none⟩])))
def c_slices_EqualFunc_Lapi_ResourceDecl_Lapi_ResourceDecl_api_ResourceDecl_api_ResourceDecl__l0 : ACode := .loop c_slices_EqualFunc_Lapi_ResourceDecl_Lapi_ResourceDecl_api_ResourceDecl_api_ResourceDecl__l0b
def c_slices_EqualFunc_Lapi_ResourceDecl_Lapi_ResourceDecl_api_ResourceDecl_api_ResourceDecl__j1 : ACode :=
  .seq (.region false [⟨(some 6), .mv (.const (.bool true)), none⟩])
  (.ret)
/-- slices.EqualFunc[[]simulator/api.ResourceDecl,[]simulator/api.ResourceDecl,simulator/api.ResourceDecl,simulator/api.ResourceDecl] -/
def c_slices_EqualFunc_Lapi_ResourceDecl_Lapi_ResourceDecl_api_ResourceDecl_api_ResourceDecl_ : ACode :=
  .seq (.region false [⟨(some 6), .mv (.const (.bool false)), none⟩])
  (.seq (.seq (.region false [⟨(some 10), .mv (.tmp 0), none⟩,
       ⟨(some 11), .len .slice (.tmp 10), none⟩,
       ⟨(some 12), .mv (.tmp 1), none⟩,
       ⟨(some 13), .len .slice (.tmp 12), none⟩,
       ⟨(some 14), .bin .neq .prim (.tmp 11) (.tmp 13), none⟩])
    (.cond (.tmp 14) (.seq (.region false [⟨(some 6), .mv (.const (.bool false)), none⟩])
      (.ret))
     (.skip)))
   (.seq (.seq (.region false [⟨(some 15), .mv (.tmp 0), none⟩,
        ⟨(some 16), .len .slice (.tmp 15), none⟩,
        ⟨(some 17), .mv (.const (.int .i64 0)), none⟩])
     (.block 0 (c_slices_EqualFunc_Lapi_ResourceDecl_Lapi_ResourceDecl_api_ResourceDecl_api_ResourceDecl__l0)))
    c_slices_EqualFunc_Lapi_ResourceDecl_Lapi_ResourceDecl_api_ResourceDecl_api_ResourceDecl__j1))
def a_slices_EqualFunc_Lapi_ResourceDecl_Lapi_ResourceDecl_api_ResourceDecl_api_ResourceDecl_ : AFn := ⟨32, [.tmp 6], c_slices_EqualFunc_Lapi_ResourceDecl_Lapi_ResourceDecl_api_ResourceDecl_api_ResourceDecl_, false⟩
theorem t_slices_EqualFunc_Lapi_ResourceDecl_Lapi_ResourceDecl_api_ResourceDecl_api_ResourceDecl_ : cFn Tryz.prog takesW Tryz.f108 = some a_slices_EqualFunc_Lapi_ResourceDecl_Lapi_ResourceDecl_api_ResourceDecl_api_ResourceDecl_ := by kernel_rfl
theorem n_slices_EqualFunc_Lapi_ResourceDecl_Lapi_ResourceDecl_api_ResourceDecl_api_ResourceDecl_ : (Tryz.f108.name == "runtime.NumGoroutine") = false := by kernel_rfl
/-- simulator/model.sameResource -/
def c_model_sameResource : ACode :=
  .seq (.region false [⟨(some 2), .box 92 17 (.tmp 0), none⟩,
     ⟨(some 3), .box 92 17 (.tmp 1), none⟩,
     ⟨(some 4), .mv (.const (.bool false)), none⟩])
  (.seq (.region false [⟨(some 5), .fa 0 (.tmp 2), none⟩,
      ⟨(some 6), .ldc (.tmp 5), none⟩,
      ⟨(some 7), .fa 0 (.tmp 3), none⟩,
      ⟨(some 8), .ldc (.tmp 7), none⟩,
      ⟨(some 9), .bin .eql .prim (.tmp 6) (.tmp 8), none⟩,
      ⟨(some 10), .mv (.tmp 9), none⟩,
      ⟨(some 11), .fa 1 (.tmp 2), (some (10, true))⟩,
      ⟨(some 12), .ldc (.tmp 11), (some (10, true))⟩,
      ⟨(some 13), .fa 1 (.tmp 3), (some (10, true))⟩,
      ⟨(some 14), .ldc (.tmp 13), (some (10, true))⟩,
      ⟨(some 15), .bin .eql .prim (.tmp 12) (.tmp 14), (some (10, true))⟩,
      ⟨(some 16), .pick (.tmp 10) (.tmp 15) (.const (.bool false)), none⟩,
      ⟨(some 17), .mv (.tmp 16), none⟩,
      ⟨(some 18), .fa 3 (.tmp 2), (some (17, true))⟩,
      ⟨(some 19), .ldc (.tmp 18), (some (17, true))⟩,
      ⟨(some 20), .fa 3 (.tmp 3), (some (17, true))⟩,
      ⟨(some 21), .ldc (.tmp 20), (some (17, true))⟩,
      ⟨(some 22), .bin .eql .prim (.tmp 19) (.tmp 21), (some (17, true))⟩,
      ⟨(some 23), .pick (.tmp 17) (.tmp 22) (.const (.bool false)), none⟩,
      ⟨(some 24), .mv (.tmp 23), none⟩,
      ⟨(some 25), .fa 2 (.tmp 2), (some (24, true))⟩,
      ⟨(some 26), .ldc (.tmp 25), (some (24, true))⟩,
      ⟨(some 27), .fa 2 (.tmp 3), (some (24, true))⟩,
      ⟨(some 28), .ldc (.tmp 27), (some (24, true))⟩,
      ⟨(some 29), .call (.const (.fn 143 [] [])) [(.inr (.tmp 26)), (.inr (.tmp 28))], (some (24, true))⟩,
      ⟨(some 30), .pick (.tmp 24) (.tmp 29) (.const (.bool false)), none⟩,
      ⟨(some 31), .mv (.tmp 30), none⟩,
      ⟨(some 32), .fa 4 (.tmp 2), (some (31, true))⟩,
      ⟨(some 33), .fa 0 (.tmp 32), (some (31, true))⟩,
      ⟨(some 34), .ldc (.tmp 33), (some (31, true))⟩,
      ⟨(some 35), .fa 4 (.tmp 3), (some (31, true))⟩,
      ⟨(some 36), .fa 0 (.tmp 35), (some (31, true))⟩,
      ⟨(some 37), .ldc (.tmp 36), (some (31, true))⟩,
      ⟨(some 38), .bin .eql .prim (.tmp 34) (.tmp 37), (some (31, true))⟩,
      ⟨(some 39), .pick (.tmp 31) (.tmp 38) (.const (.bool false)), none⟩,
      ⟨(some 40), .mv (.tmp 39), none⟩,
      ⟨(some 41), .fa 4 (.tmp 2), (some (40, true))⟩,
      ⟨(some 42), .fa 1 (.tmp 41), (some (40, true))⟩,
      ⟨(some 43), .lda 6 (.tmp 42), (some (40, true))⟩,
      ⟨(some 44), .fa 4 (.tmp 3), (some (40, true))⟩,
      ⟨(some 45), .fa 1 (.tmp 44), (some (40, true))⟩,
      ⟨(some 46), .lda 6 (.tmp 45), (some (40, true))⟩,
      ⟨(some 47), .call (.const (.fn 127 [] [])) [(.inr (.tmp 43)), (.inr (.tmp 46))], (some (40, true))⟩,
      ⟨(some 48), .pick (.tmp 40) (.tmp 47) (.const (.bool false)), none⟩,
      ⟨(some 49), .mv (.tmp 48), none⟩,
      ⟨(some 50), .fa 4 (.tmp 2), (some (49, true))⟩,
      ⟨(some 51), .fa 7 (.tmp 50), (some (49, true))⟩,
      ⟨(some 52), .lda 6 (.tmp 51), (some (49, true))⟩,
      ⟨(some 53), .fa 4 (.tmp 3), (some (49, true))⟩,
      ⟨(some 54), .fa 7 (.tmp 53), (some (49, true))⟩,
      ⟨(some 55), .lda 6 (.tmp 54), (some (49, true))⟩,
      ⟨(some 56), .call (.const (.fn 127 [] [])) [(.inr (.tmp 52)), (.inr (.tmp 55))], (some (49, true))⟩,
      ⟨(some 57), .pick (.tmp 49) (.tmp 56) (.const (.bool false)), none⟩,
      ⟨(some 4), .take 57, none⟩])
   (.ret))
def a_model_sameResource : AFn := ⟨58, [.tmp 4], c_model_sameResource, false⟩
theorem t_model_sameResource : cFn Tryz.prog takesW Tryz.f109 = some a_model_sameResource := by kernel_rfl
theorem n_model_sameResource : (Tryz.f109.name == "runtime.NumGoroutine") = false := by kernel_rfl
def c_slices_Equal_Lapi_StoreDecl_api_StoreDecl__l0b : ACode :=
  .seq (.region false [⟨(some 14), .bin .lss .prim (.tmp 13) (.tmp 12), none⟩])
  (.seq (.cond (.tmp 14) (.skip)
    (.exit 0))
   (.seq (.block 1 (.seq (.region false [⟨(some 15), .mv (.tmp 13), none⟩,
         ⟨(some 5), .take 15, none⟩])
      (.seq (.region true [⟨(some 16), .mv (.tmp 0), none⟩,
          ⟨(some 17), .mv (.tmp 5), none⟩,
          ⟨(some 18), .ia (.slice 3) (.tmp 16) (.tmp 17), none⟩,
          ⟨(some 19), .lda 3 (.tmp 18), none⟩,
          ⟨(some 20), .mv (.tmp 1), none⟩,
          ⟨(some 21), .mv (.tmp 5), none⟩,
          ⟨(some 22), .ia (.slice 3) (.tmp 20) (.tmp 21), none⟩,
          ⟨(some 23), .lda 3 (.tmp 22), none⟩,
          ⟨(some 24), .bin .neq (.struct [.str, .int, .int]) (.tmp 19) (.tmp 23), none⟩])
       (.cond (.tmp 24) (.seq (.region false [⟨(some 4), .mv (.const (.bool false)), none⟩])
         (.ret))
        (.skip)))))
    (.region false [⟨(some 25), .bin .add .prim (.tmp 13) (.const (.int .i64 1)), none⟩,
       ⟨(some 13), .mv (.tmp 25), none⟩])))
def c_slices_Equal_Lapi_StoreDecl_api_StoreDecl__l0 : ACode := .loop c_slices_Equal_Lapi_StoreDecl_api_StoreDecl__l0b
def c_slices_Equal_Lapi_StoreDecl_api_StoreDecl__j1 : ACode :=
  .seq (.region false [⟨(some 4), .mv (.const (.bool true)), none⟩])
  (.ret)
/-- slices.Equal[[]simulator/api.StoreDecl,simulator/api.StoreDecl] -/
def c_slices_Equal_Lapi_StoreDecl_api_StoreDecl_ : ACode :=
  .seq (.region false [⟨(some 4), .mv (.const (.bool false)), none⟩])
  (.seq (.seq (.region false [⟨(some 6), .mv (.tmp 0), none⟩,
       ⟨(some 7), .len .slice (.tmp 6), none⟩,
       ⟨(some 8), .mv (.tmp 1), none⟩,
       ⟨(some 9), .len .slice (.tmp 8), none⟩,
       ⟨(some 10), .bin .neq .prim (.tmp 7) (.tmp 9), none⟩])
    (.cond (.tmp 10) (.seq (.region false [⟨(some 4), .mv (.const (.bool false)), none⟩])
      (.ret))
     (.skip)))
   (.seq (.seq (.region false [⟨(some 11), .mv (.tmp 0), none⟩,
        ⟨(some 12), .len .slice (.tmp 11), none⟩,
        ⟨(some 13), .mv (.const (.int .i64 0)), none⟩])
     (.block 0 (c_slices_Equal_Lapi_StoreDecl_api_StoreDecl__l0)))
    c_slices_Equal_Lapi_StoreDecl_api_StoreDecl__j1))
def a_slices_Equal_Lapi_StoreDecl_api_StoreDecl_ : AFn := ⟨26, [.tmp 4], c_slices_Equal_Lapi_StoreDecl_api_StoreDecl_, false⟩
theorem t_slices_Equal_Lapi_StoreDecl_api_StoreDecl_ : cFn Tryz.prog takesW Tryz.f110 = some a_slices_Equal_Lapi_StoreDecl_api_StoreDecl_ := by kernel_rfl
theorem n_slices_Equal_Lapi_StoreDecl_api_StoreDecl_ : (Tryz.f110.name == "runtime.NumGoroutine") = false := by kernel_rfl
def c_slices_Equal_Lapi_BeltDecl_api_BeltDecl__l0b : ACode :=
  .seq (.region false [⟨(some 14), .bin .lss .prim (.tmp 13) (.tmp 12), none⟩])
  (.seq (.cond (.tmp 14) (.skip)
    (.exit 0))
   (.seq (.block 1 (.seq (.region false [⟨(some 15), .mv (.tmp 13), none⟩,
         ⟨(some 5), .take 15, none⟩])
      (.seq (.region true [⟨(some 16), .mv (.tmp 0), none⟩,
          ⟨(some 17), .mv (.tmp 5), none⟩,
          ⟨(some 18), .ia (.slice 3) (.tmp 16) (.tmp 17), none⟩,
          ⟨(some 19), .lda 3 (.tmp 18), none⟩,
          ⟨(some 20), .mv (.tmp 1), none⟩,
          ⟨(some 21), .mv (.tmp 5), none⟩,
          ⟨(some 22), .ia (.slice 3) (.tmp 20) (.tmp 21), none⟩,
          ⟨(some 23), .lda 3 (.tmp 22), none⟩,
          ⟨(some 24), .bin .neq (.struct [.str, .int, .int]) (.tmp 19) (.tmp 23), none⟩])
       (.cond (.tmp 24) (.seq (.region false [⟨(some 4), .mv (.const (.bool false)), none⟩])
         (.ret))
        (.skip)))))
    (.region false [⟨(some 25), .bin .add .prim (.tmp 13) (.const (.int .i64 1)), none⟩,
       ⟨(some 13), .mv (.tmp 25), none⟩])))
def c_slices_Equal_Lapi_BeltDecl_api_BeltDecl__l0 : ACode := .loop c_slices_Equal_Lapi_BeltDecl_api_BeltDecl__l0b
def c_slices_Equal_Lapi_BeltDecl_api_BeltDecl__j1 : ACode :=
  .seq (.region false [⟨(some 4), .mv (.const (.bool true)), none⟩])
  (.ret)
/-- slices.Equal[[]simulator/api.BeltDecl,simulator/api.BeltDecl] -/
def c_slices_Equal_Lapi_BeltDecl_api_BeltDecl_ : ACode :=
  .seq (.region false [⟨(some 4), .mv (.const (.bool false)), none⟩])
  (.seq (.seq (.region false [⟨(some 6), .mv (.tmp 0), none⟩,
       ⟨(some 7), .len .slice (.tmp 6), none⟩,
       ⟨(some 8), .mv (.tmp 1), none⟩,
       ⟨(some 9), .len .slice (.tmp 8), none⟩,
       ⟨(some 10), .bin .neq .prim (.tmp 7) (.tmp 9), none⟩])
    (.cond (.tmp 10) (.seq (.region false [⟨(some 4), .mv (.const (.bool false)), none⟩])
      (.ret))
     (.skip)))
   (.seq (.seq (.region false [⟨(some 11), .mv (.tmp 0), none⟩,
        ⟨(some 12), .len .slice (.tmp 11), none⟩,
        ⟨(some 13), .mv (.const (.int .i64 0)), none⟩])
     (.block 0 (c_slices_Equal_Lapi_BeltDecl_api_BeltDecl__l0)))
    c_slices_Equal_Lapi_BeltDecl_api_BeltDecl__j1))
def a_slices_Equal_Lapi_BeltDecl_api_BeltDecl_ : AFn := ⟨26, [.tmp 4], c_slices_Equal_Lapi_BeltDecl_api_BeltDecl_, false⟩
theorem t_slices_Equal_Lapi_BeltDecl_api_BeltDecl_ : cFn Tryz.prog takesW Tryz.f111 = some a_slices_Equal_Lapi_BeltDecl_api_BeltDecl_ := by kernel_rfl
theorem n_slices_Equal_Lapi_BeltDecl_api_BeltDecl_ : (Tryz.f111.name == "runtime.NumGoroutine") = false := by kernel_rfl
def c_slices_Equal_Lstring_string__l0b : ACode :=
  .seq (.region false [⟨(some 14), .bin .lss .prim (.tmp 13) (.tmp 12), none⟩])
  (.seq (.cond (.tmp 14) (.skip)
    (.exit 0))
   (.seq (.block 1 (.seq (.region false [⟨(some 15), .mv (.tmp 13), none⟩,
         ⟨(some 5), .take 15, none⟩])
      (.seq (.region true [⟨(some 16), .mv (.tmp 0), none⟩,
          ⟨(some 17), .mv (.tmp 5), none⟩,
          ⟨(some 18), .ia (.slice 1) (.tmp 16) (.tmp 17), none⟩,
          ⟨(some 19), .ldc (.tmp 18), none⟩,
          ⟨(some 20), .mv (.tmp 1), none⟩,
          ⟨(some 21), .mv (.tmp 5), none⟩,
          ⟨(some 22), .ia (.slice 1) (.tmp 20) (.tmp 21), none⟩,
          ⟨(some 23), .ldc (.tmp 22), none⟩,
          ⟨(some 24), .bin .neq .prim (.tmp 19) (.tmp 23), none⟩])
       (.cond (.tmp 24) (.seq (.region false [⟨(some 4), .mv (.const (.bool false)), none⟩])
         (.ret))
        (.skip)))))
    (.region false [⟨(some 25), .bin .add .prim (.tmp 13) (.const (.int .i64 1)), none⟩,
       ⟨(some 13), .mv (.tmp 25), none⟩])))
def c_slices_Equal_Lstring_string__l0 : ACode := .loop c_slices_Equal_Lstring_string__l0b
def c_slices_Equal_Lstring_string__j1 : ACode :=
  .seq (.region false [⟨(some 4), .mv (.const (.bool true)), none⟩])
  (.ret)
/-- slices.Equal[[]string,string] -/
def c_slices_Equal_Lstring_string_ : ACode :=
  .seq (.region false [⟨(some 4), .mv (.const (.bool false)), none⟩])
  (.seq (.seq (.region false [⟨(some 6), .mv (.tmp 0), none⟩,
       ⟨(some 7), .len .slice (.tmp 6), none⟩,
       ⟨(some 8), .mv (.tmp 1), none⟩,
       ⟨(some 9), .len .slice (.tmp 8), none⟩,
       ⟨(some 10), .bin .neq .prim (.tmp 7) (.tmp 9), none⟩])
    (.cond (.tmp 10) (.seq (.region false [⟨(some 4), .mv (.const (.bool false)), none⟩])
      (.ret))
     (.skip)))
   (.seq (.seq (.region false [⟨(some 11), .mv (.tmp 0), none⟩,
        ⟨(some 12), .len .slice (.tmp 11), none⟩,
        ⟨(some 13), .mv (.const (.int .i64 0)), none⟩])
     (.block 0 (c_slices_Equal_Lstring_string__l0)))
    c_slices_Equal_Lstring_string__j1))
def a_slices_Equal_Lstring_string_ : AFn := ⟨26, [.tmp 4], c_slices_Equal_Lstring_string_, false⟩
theorem t_slices_Equal_Lstring_string_ : cFn Tryz.prog takesW Tryz.f112 = some a_slices_Equal_Lstring_string_ := by kernel_rfl
theorem n_slices_Equal_Lstring_string_ : (Tryz.f112.name == "runtime.NumGoroutine") = false := by kernel_rfl
def c_slices_EqualFunc_Lapi_Routine_Lapi_Routine_api_Routine_api_Routine__l0b : ACode :=
  .seq (.region false [⟨(some 18), .bin .lss .prim (.tmp 17) (.tmp 16), none⟩])
  (.seq (.cond (.tmp 18) (.skip)
    (.exit 0))
   (.seq (.block 1 (.seq (.region false [⟨(some 19), .mv (.tmp 17), none⟩,
         ⟨(some 20), .ia (.slice 4) (.tmp 15) (.tmp 17), none⟩,
         ⟨(some 21), .lda 4 (.tmp 20), none⟩,
         ⟨(some 8), .mk 79 [(.str []), (.own 2 []), (.own 2 []), (.own 21 [])], none⟩,
         ⟨(some 7), .take 19, none⟩,
         ⟨none, .st 4 (.tmp 8) (.tmp 21), none⟩])
      (.seq (.region false [⟨(some 22), .mv (.tmp 1), none⟩,
          ⟨(some 23), .mv (.tmp 7), none⟩,
          ⟨(some 24), .ia (.slice 4) (.tmp 22) (.tmp 23), none⟩,
          ⟨(some 25), .lda 4 (.tmp 24), none⟩,
          ⟨(some 9), .mk 79 [(.str []), (.own 2 []), (.own 2 []), (.own 21 [])], none⟩,
          ⟨none, .st 4 (.tmp 9) (.tmp 25), none⟩])
       (.seq (.region false [⟨(some 26), .mv (.tmp 2), none⟩,
           ⟨(some 27), .lda 4 (.tmp 8), none⟩,
           ⟨(some 28), .lda 4 (.tmp 9), none⟩,
           ⟨(some 29), .call (.tmp 26) [(.inr (.tmp 27)), (.inr (.tmp 28))], none⟩,
           ⟨(some 30), .un .not (.tmp 29), none⟩])
        (.cond (.tmp 30) (.seq (.region false [⟨(some 6), .mv (.const (.bool false)), none⟩])
          (.ret))
         (.skip))))))
    (.region false [⟨(some 31), .bin .add .prim (.tmp 17) (.const (.int .i64 1)), none⟩,
       ⟨(some 17), .mv (.tmp 31), none⟩])))
def c_slices_EqualFunc_Lapi_Routine_Lapi_Routine_api_Routine_api_Routine__l0 : ACode := .loop c_slices_EqualFunc_Lapi_Routine_Lapi_Routine_api_Routine_api_Routine__l0b
def c_slices_EqualFunc_Lapi_Routine_Lapi_Routine_api_Routine_api_Routine__j1 : ACode :=
  .seq (.region false [⟨(some 6), .mv (.const (.bool true)), none⟩])
  (.ret)
/-- slices.EqualFunc[[]simulator/api.Routine,[]simulator/api.Routine,simulator/api.Routine,simulator/api.Routine] -/
def c_slices_EqualFunc_Lapi_Routine_Lapi_Routine_api_Routine_api_Routine_ : ACode :=
  .seq (.region false [⟨(some 6), .mv (.const (.bool false)), none⟩])
  (.seq (.seq (.region false [⟨(some 10), .mv (.tmp 0), none⟩,
       ⟨(some 11), .len .slice (.tmp 10), none⟩,
       ⟨(some 12), .mv (.tmp 1), none⟩,
       ⟨(some 13), .len .slice (.tmp 12), none⟩,
       ⟨(some 14), .bin .neq .prim (.tmp 11) (.tmp 13), none⟩])
    (.cond (.tmp 14) (.seq (.region false [⟨(some 6), .mv (.const (.bool false)), none⟩])
      (.ret))
     (.skip)))
   (.seq (.seq (.region false [⟨(some 15), .mv (.tmp 0), none⟩,
        ⟨(some 16), .len .slice (.tmp 15), none⟩,
        ⟨(some 17), .mv (.const (.int .i64 0)), none⟩])
     (.block 0 (c_slices_EqualFunc_Lapi_Routine_Lapi_Routine_api_Routine_api_Routine__l0)))
    c_slices_EqualFunc_Lapi_Routine_Lapi_Routine_api_Routine_api_Routine__j1))
def a_slices_EqualFunc_Lapi_Routine_Lapi_Routine_api_Routine_api_Routine_ : AFn := ⟨32, [.tmp 6], c_slices_EqualFunc_Lapi_Routine_Lapi_Routine_api_Routine_api_Routine_, false⟩
theorem t_slices_EqualFunc_Lapi_Routine_Lapi_Routine_api_Routine_api_Routine_ : cFn Tryz.prog takesW Tryz.f113 = some a_slices_EqualFunc_Lapi_Routine_Lapi_Routine_api_Routine_api_Routine_ := by kernel_rfl
theorem n_slices_EqualFunc_Lapi_Routine_Lapi_Routine_api_Routine_api_Routine_ : (Tryz.f113.name == "runtime.NumGoroutine") = false := by kernel_rfl
/-- simulator/model.sameRoutine -/
def c_model_sameRoutine : ACode :=
  .seq (.region false [⟨(some 2), .box 79 4 (.tmp 0), none⟩,
     ⟨(some 3), .box 79 4 (.tmp 1), none⟩,
     ⟨(some 4), .mv (.const (.bool false)), none⟩])
  (.seq (.region false [⟨(some 5), .fa 0 (.tmp 2), none⟩,
      ⟨(some 6), .ldc (.tmp 5), none⟩,
      ⟨(some 7), .fa 0 (.tmp 3), none⟩,
      ⟨(some 8), .ldc (.tmp 7), none⟩,
      ⟨(some 9), .bin .eql .prim (.tmp 6) (.tmp 8), none⟩,
      ⟨(some 10), .mv (.tmp 9), none⟩,
      ⟨(some 11), .fa 1 (.tmp 2), (some (10, true))⟩,
      ⟨(some 12), .ldc (.tmp 11), (some (10, true))⟩,
      ⟨(some 13), .fa 1 (.tmp 3), (some (10, true))⟩,
      ⟨(some 14), .ldc (.tmp 13), (some (10, true))⟩,
      ⟨(some 15), .call (.const (.fn 144 [] [])) [(.inr (.tmp 12)), (.inr (.tmp 14))], (some (10, true))⟩,
      ⟨(some 16), .pick (.tmp 10) (.tmp 15) (.const (.bool false)), none⟩,
      ⟨(some 17), .mv (.tmp 16), none⟩,
      ⟨(some 18), .fa 2 (.tmp 2), (some (17, true))⟩,
      ⟨(some 19), .ldc (.tmp 18), (some (17, true))⟩,
      ⟨(some 20), .fa 2 (.tmp 3), (some (17, true))⟩,
      ⟨(some 21), .ldc (.tmp 20), (some (17, true))⟩,
      ⟨(some 22), .call (.const (.fn 144 [] [])) [(.inr (.tmp 19)), (.inr (.tmp 21))], (some (17, true))⟩,
      ⟨(some 23), .pick (.tmp 17) (.tmp 22) (.const (.bool false)), none⟩,
      ⟨(some 24), .mv (.tmp 23), none⟩,
      ⟨(some 25), .fa 3 (.tmp 2), (some (24, true))⟩,
      ⟨(some 26), .ldc (.tmp 25), (some (24, true))⟩,
      ⟨(some 27), .fa 3 (.tmp 3), (some (24, true))⟩,
      ⟨(some 28), .ldc (.tmp 27), (some (24, true))⟩,
      ⟨(some 29), .call (.const (.fn 145 [] [])) [(.inr (.tmp 26)), (.inr (.tmp 28))], (some (24, true))⟩,
      ⟨(some 30), .pick (.tmp 24) (.tmp 29) (.const (.bool false)), none⟩,
      ⟨(some 4), .take 30, none⟩])
   (.ret))
def a_model_sameRoutine : AFn := ⟨31, [.tmp 4], c_model_sameRoutine, false⟩
theorem t_model_sameRoutine : cFn Tryz.prog takesW Tryz.f114 = some a_model_sameRoutine := by kernel_rfl
theorem n_model_sameRoutine : (Tryz.f114.name == "runtime.NumGoroutine") = false := by kernel_rfl
def c_slices_EqualFunc_Lapi_Start_Lapi_Start_api_Start_api_Start__l0b : ACode :=
  .seq (.region false [⟨(some 18), .bin .lss .prim (.tmp 17) (.tmp 16), none⟩])
  (.seq (.cond (.tmp 18) (.skip)
    (.exit 0))
   (.seq (.block 1 (.seq (.region false [⟨(some 19), .mv (.tmp 17), none⟩,
         ⟨(some 20), .ia (.slice 5) (.tmp 15) (.tmp 17), none⟩,
         ⟨(some 21), .lda 5 (.tmp 20), none⟩,
         ⟨(some 8), .mk 105 [(.str []), (.own 1 []), (.int .i64 0), (.int .i64 0), (.int .i64 0)], none⟩,
         ⟨(some 7), .take 19, none⟩,
         ⟨none, .st 5 (.tmp 8) (.tmp 21), none⟩])
      (.seq (.region false [⟨(some 22), .mv (.tmp 1), none⟩,
          ⟨(some 23), .mv (.tmp 7), none⟩,
          ⟨(some 24), .ia (.slice 5) (.tmp 22) (.tmp 23), none⟩,
          ⟨(some 25), .lda 5 (.tmp 24), none⟩,
          ⟨(some 9), .mk 105 [(.str []), (.own 1 []), (.int .i64 0), (.int .i64 0), (.int .i64 0)], none⟩,
          ⟨none, .st 5 (.tmp 9) (.tmp 25), none⟩])
       (.seq (.region false [⟨(some 26), .mv (.tmp 2), none⟩,
           ⟨(some 27), .lda 5 (.tmp 8), none⟩,
           ⟨(some 28), .lda 5 (.tmp 9), none⟩,
           ⟨(some 29), .call (.tmp 26) [(.inr (.tmp 27)), (.inr (.tmp 28))], none⟩,
           ⟨(some 30), .un .not (.tmp 29), none⟩])
        (.cond (.tmp 30) (.seq (.region false [⟨(some 6), .mv (.const (.bool false)), none⟩])
          (.ret))
         (.skip))))))
    (.region false [⟨(some 31), .bin .add .prim (.tmp 17) (.const (.int .i64 1)), none⟩,
       ⟨(some 17), .mv (.tmp 31), none⟩])))
def c_slices_EqualFunc_Lapi_Start_Lapi_Start_api_Start_api_Start__l0 : ACode := .loop c_slices_EqualFunc_Lapi_Start_Lapi_Start_api_Start_api_Start__l0b
def c_slices_EqualFunc_Lapi_Start_Lapi_Start_api_Start_api_Start__j1 : ACode :=
  .seq (.region false [⟨(some 6), .mv (.const (.bool true)), none⟩])
  (.ret)
/-- slices.EqualFunc[[]simulator/api.Start,[]simulator/api.Start,simulator/api.Start,simulator/api.Start] -/
def c_slices_EqualFunc_Lapi_Start_Lapi_Start_api_Start_api_Start_ : ACode :=
  .seq (.region false [⟨(some 6), .mv (.const (.bool false)), none⟩])
  (.seq (.seq (.region false [⟨(some 10), .mv (.tmp 0), none⟩,
       ⟨(some 11), .len .slice (.tmp 10), none⟩,
       ⟨(some 12), .mv (.tmp 1), none⟩,
       ⟨(some 13), .len .slice (.tmp 12), none⟩,
       ⟨(some 14), .bin .neq .prim (.tmp 11) (.tmp 13), none⟩])
    (.cond (.tmp 14) (.seq (.region false [⟨(some 6), .mv (.const (.bool false)), none⟩])
      (.ret))
     (.skip)))
   (.seq (.seq (.region false [⟨(some 15), .mv (.tmp 0), none⟩,
        ⟨(some 16), .len .slice (.tmp 15), none⟩,
        ⟨(some 17), .mv (.const (.int .i64 0)), none⟩])
     (.block 0 (c_slices_EqualFunc_Lapi_Start_Lapi_Start_api_Start_api_Start__l0)))
    c_slices_EqualFunc_Lapi_Start_Lapi_Start_api_Start_api_Start__j1))
def a_slices_EqualFunc_Lapi_Start_Lapi_Start_api_Start_api_Start_ : AFn := ⟨32, [.tmp 6], c_slices_EqualFunc_Lapi_Start_Lapi_Start_api_Start_api_Start_, false⟩
theorem t_slices_EqualFunc_Lapi_Start_Lapi_Start_api_Start_api_Start_ : cFn Tryz.prog takesW Tryz.f115 = some a_slices_EqualFunc_Lapi_Start_Lapi_Start_api_Start_api_Start_ := by kernel_rfl
theorem n_slices_EqualFunc_Lapi_Start_Lapi_Start_api_Start_api_Start_ : (Tryz.f115.name == "runtime.NumGoroutine") = false := by kernel_rfl
/-- simulator/model.sameStart -/
def c_model_sameStart : ACode :=
  .seq (.region false [⟨(some 2), .box 105 5 (.tmp 0), none⟩,
     ⟨(some 3), .box 105 5 (.tmp 1), none⟩,
     ⟨(some 4), .mv (.const (.bool false)), none⟩])
  (.seq (.region false [⟨(some 5), .fa 0 (.tmp 2), none⟩,
      ⟨(some 6), .ldc (.tmp 5), none⟩,
      ⟨(some 7), .fa 0 (.tmp 3), none⟩,
      ⟨(some 8), .ldc (.tmp 7), none⟩,
      ⟨(some 9), .bin .eql .prim (.tmp 6) (.tmp 8), none⟩,
      ⟨(some 10), .mv (.tmp 9), none⟩,
      ⟨(some 11), .fa 1 (.tmp 2), (some (10, true))⟩,
      ⟨(some 12), .ldc (.tmp 11), (some (10, true))⟩,
      ⟨(some 13), .fa 1 (.tmp 3), (some (10, true))⟩,
      ⟨(some 14), .ldc (.tmp 13), (some (10, true))⟩,
      ⟨(some 15), .call (.const (.fn 146 [] [])) [(.inr (.tmp 12)), (.inr (.tmp 14))], (some (10, true))⟩,
      ⟨(some 16), .pick (.tmp 10) (.tmp 15) (.const (.bool false)), none⟩,
      ⟨(some 17), .mv (.tmp 16), none⟩,
      ⟨(some 18), .fa 2 (.tmp 2), (some (17, true))⟩,
      ⟨(some 19), .ldc (.tmp 18), (some (17, true))⟩,
      ⟨(some 20), .fa 2 (.tmp 3), (some (17, true))⟩,
      ⟨(some 21), .ldc (.tmp 20), (some (17, true))⟩,
      ⟨(some 22), .bin .eql .prim (.tmp 19) (.tmp 21), (some (17, true))⟩,
      ⟨(some 23), .pick (.tmp 17) (.tmp 22) (.const (.bool false)), none⟩,
      ⟨(some 24), .mv (.tmp 23), none⟩,
      ⟨(some 25), .fa 3 (.tmp 2), (some (24, true))⟩,
      ⟨(some 26), .ldc (.tmp 25), (some (24, true))⟩,
      ⟨(some 27), .fa 3 (.tmp 3), (some (24, true))⟩,
      ⟨(some 28), .ldc (.tmp 27), (some (24, true))⟩,
      ⟨(some 29), .bin .eql .prim (.tmp 26) (.tmp 28), (some (24, true))⟩,
      ⟨(some 30), .pick (.tmp 24) (.tmp 29) (.const (.bool false)), none⟩,
      ⟨(some 31), .mv (.tmp 30), none⟩,
      ⟨(some 32), .fa 4 (.tmp 2), (some (31, true))⟩,
      ⟨(some 33), .ldc (.tmp 32), (some (31, true))⟩,
      ⟨(some 34), .fa 4 (.tmp 3), (some (31, true))⟩,
      ⟨(some 35), .ldc (.tmp 34), (some (31, true))⟩,
      ⟨(some 36), .bin .eql .prim (.tmp 33) (.tmp 35), (some (31, true))⟩,
      ⟨(some 37), .pick (.tmp 31) (.tmp 36) (.const (.bool false)), none⟩,
      ⟨(some 4), .take 37, none⟩])
   (.ret))
def a_model_sameStart : AFn := ⟨38, [.tmp 4], c_model_sameStart, false⟩
theorem t_model_sameStart : cFn Tryz.prog takesW Tryz.f116 = some a_model_sameStart := by kernel_rfl
theorem n_model_sameStart : (Tryz.f116.name == "runtime.NumGoroutine") = false := by kernel_rfl
def c_slices_EqualFunc_Lapi_Law_Lapi_Law_api_Law_api_Law__l0b : ACode :=
  .seq (.region false [⟨(some 18), .bin .lss .prim (.tmp 17) (.tmp 16), none⟩])
  (.seq (.cond (.tmp 18) (.skip)
    (.exit 0))
   (.seq (.block 1 (.seq (.region false [⟨(some 19), .mv (.tmp 17), none⟩,
         ⟨(some 20), .ia (.slice 3) (.tmp 15) (.tmp 17), none⟩,
         ⟨(some 21), .lda 3 (.tmp 20), none⟩,
         ⟨(some 8), .mk 57 [(.str []), (.own 3 []), (.int .i64 0)], none⟩,
         ⟨(some 7), .take 19, none⟩,
         ⟨none, .st 3 (.tmp 8) (.tmp 21), none⟩])
      (.seq (.region false [⟨(some 22), .mv (.tmp 1), none⟩,
          ⟨(some 23), .mv (.tmp 7), none⟩,
          ⟨(some 24), .ia (.slice 3) (.tmp 22) (.tmp 23), none⟩,
          ⟨(some 25), .lda 3 (.tmp 24), none⟩,
          ⟨(some 9), .mk 57 [(.str []), (.own 3 []), (.int .i64 0)], none⟩,
          ⟨none, .st 3 (.tmp 9) (.tmp 25), none⟩])
       (.seq (.region false [⟨(some 26), .mv (.tmp 2), none⟩,
           ⟨(some 27), .lda 3 (.tmp 8), none⟩,
           ⟨(some 28), .lda 3 (.tmp 9), none⟩,
           ⟨(some 29), .call (.tmp 26) [(.inr (.tmp 27)), (.inr (.tmp 28))], none⟩,
           ⟨(some 30), .un .not (.tmp 29), none⟩])
        (.cond (.tmp 30) (.seq (.region false [⟨(some 6), .mv (.const (.bool false)), none⟩])
          (.ret))
         (.skip))))))
    (.region false [⟨(some 31), .bin .add .prim (.tmp 17) (.const (.int .i64 1)), none⟩,
       ⟨(some 17), .mv (.tmp 31), none⟩])))
def c_slices_EqualFunc_Lapi_Law_Lapi_Law_api_Law_api_Law__l0 : ACode := .loop c_slices_EqualFunc_Lapi_Law_Lapi_Law_api_Law_api_Law__l0b
def c_slices_EqualFunc_Lapi_Law_Lapi_Law_api_Law_api_Law__j1 : ACode :=
  .seq (.region false [⟨(some 6), .mv (.const (.bool true)), none⟩])
  (.ret)
/-- slices.EqualFunc[[]simulator/api.Law,[]simulator/api.Law,simulator/api.Law,simulator/api.Law] -/
def c_slices_EqualFunc_Lapi_Law_Lapi_Law_api_Law_api_Law_ : ACode :=
  .seq (.region false [⟨(some 6), .mv (.const (.bool false)), none⟩])
  (.seq (.seq (.region false [⟨(some 10), .mv (.tmp 0), none⟩,
       ⟨(some 11), .len .slice (.tmp 10), none⟩,
       ⟨(some 12), .mv (.tmp 1), none⟩,
       ⟨(some 13), .len .slice (.tmp 12), none⟩,
       ⟨(some 14), .bin .neq .prim (.tmp 11) (.tmp 13), none⟩])
    (.cond (.tmp 14) (.seq (.region false [⟨(some 6), .mv (.const (.bool false)), none⟩])
      (.ret))
     (.skip)))
   (.seq (.seq (.region false [⟨(some 15), .mv (.tmp 0), none⟩,
        ⟨(some 16), .len .slice (.tmp 15), none⟩,
        ⟨(some 17), .mv (.const (.int .i64 0)), none⟩])
     (.block 0 (c_slices_EqualFunc_Lapi_Law_Lapi_Law_api_Law_api_Law__l0)))
    c_slices_EqualFunc_Lapi_Law_Lapi_Law_api_Law_api_Law__j1))
def a_slices_EqualFunc_Lapi_Law_Lapi_Law_api_Law_api_Law_ : AFn := ⟨32, [.tmp 6], c_slices_EqualFunc_Lapi_Law_Lapi_Law_api_Law_api_Law_, false⟩
theorem t_slices_EqualFunc_Lapi_Law_Lapi_Law_api_Law_api_Law_ : cFn Tryz.prog takesW Tryz.f117 = some a_slices_EqualFunc_Lapi_Law_Lapi_Law_api_Law_api_Law_ := by kernel_rfl
theorem n_slices_EqualFunc_Lapi_Law_Lapi_Law_api_Law_api_Law_ : (Tryz.f117.name == "runtime.NumGoroutine") = false := by kernel_rfl
/-- simulator/model.sameLaw -/
def c_model_sameLaw : ACode :=
  .seq (.region false [⟨(some 2), .box 57 3 (.tmp 0), none⟩,
     ⟨(some 3), .box 57 3 (.tmp 1), none⟩,
     ⟨(some 4), .mv (.const (.bool false)), none⟩])
  (.seq (.region false [⟨(some 5), .fa 0 (.tmp 2), none⟩,
      ⟨(some 6), .ldc (.tmp 5), none⟩,
      ⟨(some 7), .fa 0 (.tmp 3), none⟩,
      ⟨(some 8), .ldc (.tmp 7), none⟩,
      ⟨(some 9), .bin .eql .prim (.tmp 6) (.tmp 8), none⟩,
      ⟨(some 10), .mv (.tmp 9), none⟩,
      ⟨(some 11), .fa 2 (.tmp 2), (some (10, true))⟩,
      ⟨(some 12), .ldc (.tmp 11), (some (10, true))⟩,
      ⟨(some 13), .fa 2 (.tmp 3), (some (10, true))⟩,
      ⟨(some 14), .ldc (.tmp 13), (some (10, true))⟩,
      ⟨(some 15), .bin .eql .prim (.tmp 12) (.tmp 14), (some (10, true))⟩,
      ⟨(some 16), .pick (.tmp 10) (.tmp 15) (.const (.bool false)), none⟩,
      ⟨(some 17), .mv (.tmp 16), none⟩,
      ⟨(some 18), .fa 1 (.tmp 2), (some (17, true))⟩,
      ⟨(some 19), .ldc (.tmp 18), (some (17, true))⟩,
      ⟨(some 20), .fa 1 (.tmp 3), (some (17, true))⟩,
      ⟨(some 21), .ldc (.tmp 20), (some (17, true))⟩,
      ⟨(some 22), .call (.const (.fn 147 [] [])) [(.inr (.tmp 19)), (.inr (.tmp 21))], (some (17, true))⟩,
      ⟨(some 23), .pick (.tmp 17) (.tmp 22) (.const (.bool false)), none⟩,
      ⟨(some 4), .take 23, none⟩])
   (.ret))
def a_model_sameLaw : AFn := ⟨24, [.tmp 4], c_model_sameLaw, false⟩
theorem t_model_sameLaw : cFn Tryz.prog takesW Tryz.f118 = some a_model_sameLaw := by kernel_rfl
theorem n_model_sameLaw : (Tryz.f118.name == "runtime.NumGoroutine") = false := by kernel_rfl
/-- simulator/model.known -/
def c_model_known : ACode :=
  .seq (.region false [⟨(some 2), .mv (.const (.bool false)), none⟩])
  (.seq (.region false [⟨(some 3), .mv (.tmp 0), none⟩,
      ⟨(some 4), .bin .geq .prim (.tmp 3) (.const (.int .i64 1)), none⟩,
      ⟨(some 5), .mv (.tmp 4), none⟩,
      ⟨(some 6), .mv (.tmp 0), (some (5, true))⟩,
      ⟨(some 7), .bin .leq .prim (.tmp 6) (.const (.int .i64 3)), (some (5, true))⟩,
      ⟨(some 8), .pick (.tmp 5) (.tmp 7) (.const (.bool false)), none⟩,
      ⟨(some 2), .take 8, none⟩])
   (.ret))
def a_model_known : AFn := ⟨9, [.tmp 2], c_model_known, false⟩
theorem t_model_known : cFn Tryz.prog takesW Tryz.f125 = some a_model_known := by kernel_rfl
theorem n_model_known : (Tryz.f125.name == "runtime.NumGoroutine") = false := by kernel_rfl
/-- simulator/model.fits -/
def c_model_fits : ACode :=
  .seq (.region false [⟨(some 4), .mv (.const (.bool false)), none⟩])
  (.seq (.seq (.region false [⟨(some 5), .mv (.tmp 0), none⟩])
    (.block 0 (.seq (.region false [⟨(some 7), .bin .eql .prim (.tmp 5) (.const (.int .i64 1)), none⟩,
         ⟨(some 6), .take 7, none⟩])
      (.cond (.tmp 6) (.seq (.region false [⟨(some 8), .mv (.tmp 1), none⟩,
           ⟨(some 9), .call (.const (.fn 137 [] [])) [(.inr (.tmp 8))], none⟩,
           ⟨(some 4), .take 9, none⟩])
        (.ret))
       (.seq (.region false [⟨(some 11), .bin .eql .prim (.tmp 5) (.const (.int .i64 2)), none⟩,
           ⟨(some 10), .take 11, none⟩])
        (.cond (.tmp 10) (.seq (.region false [⟨(some 12), .mv (.tmp 1), none⟩,
             ⟨(some 13), .bin .eql .prim (.tmp 12) (.const (.int .i64 0)), none⟩,
             ⟨(some 14), .mv (.tmp 13), none⟩,
             ⟨(some 15), .mv (.tmp 1), (some (14, false))⟩,
             ⟨(some 16), .bin .eql .prim (.tmp 15) (.const (.int .i64 1)), (some (14, false))⟩,
             ⟨(some 17), .pick (.tmp 14) (.const (.bool true)) (.tmp 16), none⟩,
             ⟨(some 4), .take 17, none⟩])
          (.ret))
         (.seq (.region false [⟨(some 19), .bin .eql .prim (.tmp 5) (.const (.int .i64 3)), none⟩,
             ⟨(some 18), .take 19, none⟩])
          (.cond (.tmp 18) (.seq (.region false [⟨(some 20), .mv (.tmp 1), none⟩,
               ⟨(some 21), .call (.const (.fn 65 [] [])) [(.inr (.tmp 20)), (.inr (.const (.int .i64 0))), (.inr (.const (.int .i64 1000000000)))], none⟩,
               ⟨(some 4), .take 21, none⟩])
            (.ret))
           (.skip)))))))))
   (.seq (.region false [⟨(some 4), .mv (.const (.bool false)), none⟩])
    (.ret)))
def a_model_fits : AFn := ⟨22, [.tmp 4], c_model_fits, false⟩
theorem t_model_fits : cFn Tryz.prog takesW Tryz.f126 = some a_model_fits := by kernel_rfl
theorem n_model_fits : (Tryz.f126.name == "runtime.NumGoroutine") = false := by kernel_rfl
/-- simulator/model.site$1 -/
def c_model_site_1 : ACode :=
  .seq (.region false [⟨(some 3), .mv (.const (.int .i64 0)), none⟩])
  (.seq (.region false [⟨(some 4), .mv (.tmp 0), none⟩,
      ⟨(some 5), .ldc (.tmp 1), none⟩,
      ⟨(some 6), .mkfn 30 [(.tmp 5)] [], none⟩,
      ⟨(some 7), .call (.const (.fn 59 [] [])) [(.inr (.tmp 4)), (.inr (.const (.int .i64 32))), (.inr (.tmp 6))], none⟩,
      ⟨(some 3), .take 7, none⟩])
   (.ret))
def a_model_site_1 : AFn := ⟨8, [.tmp 3], c_model_site_1, false⟩
theorem t_model_site_1 : cFn Tryz.prog takesW Tryz.f58 = some a_model_site_1 := by kernel_rfl
theorem n_model_site_1 : (Tryz.f58.name == "runtime.NumGoroutine") = false := by kernel_rfl
/-- simulator/model.site$2 -/
def c_model_site_2 : ACode :=
  .seq (.region false [⟨(some 2), .mv (.const (.int .i64 0)), none⟩])
  (.seq (.region false [⟨(some 3), .ldc (.tmp 0), none⟩,
      ⟨(some 4), .fa 1 (.tmp 1), none⟩,
      ⟨(some 5), .ldc (.tmp 4), none⟩,
      ⟨(some 6), .call (.const (.fn 27 [] [])) [(.inr (.tmp 3)), (.inr (.tmp 5))], none⟩,
      ⟨(some 2), .take 6, none⟩])
   (.ret))
def a_model_site_2 : AFn := ⟨7, [.tmp 2], c_model_site_2, false⟩
theorem t_model_site_2 : cFn Tryz.prog takesW Tryz.f61 = some a_model_site_2 := by kernel_rfl
theorem n_model_site_2 : (Tryz.f61.name == "runtime.NumGoroutine") = false := by kernel_rfl
/-- simulator/model.site$3 -/
def c_model_site_3 : ACode :=
  .seq (.region false [⟨(some 2), .mv (.const (.int .i64 0)), none⟩])
  (.seq (.region false [⟨(some 3), .fa 2 (.tmp 0), none⟩,
      ⟨(some 4), .ldc (.tmp 3), none⟩,
      ⟨(some 5), .mkfn 64 [] [(.tmp 1), (.tmp 0)], none⟩,
      ⟨(some 6), .call (.const (.fn 63 [] [])) [(.inr (.tmp 4)), (.inr (.const (.int .i64 32))), (.inr (.tmp 5))], none⟩,
      ⟨(some 2), .take 6, none⟩])
   (.ret))
def a_model_site_3 : AFn := ⟨7, [.tmp 2], c_model_site_3, false⟩
theorem t_model_site_3 : cFn Tryz.prog takesW Tryz.f62 = some a_model_site_3 := by kernel_rfl
theorem n_model_site_3 : (Tryz.f62.name == "runtime.NumGoroutine") = false := by kernel_rfl
/-- simulator/model.site$4 -/
def c_model_site_4 : ACode :=
  .seq (.region false [⟨(some 2), .mv (.const (.int .i64 0)), none⟩])
  (.seq (.region false [⟨(some 3), .fa 3 (.tmp 0), none⟩,
      ⟨(some 4), .ldc (.tmp 3), none⟩,
      ⟨(some 5), .mkfn 70 [] [(.tmp 1)], none⟩,
      ⟨(some 6), .call (.const (.fn 69 [] [])) [(.inr (.tmp 4)), (.inr (.const (.int .i64 32))), (.inr (.tmp 5))], none⟩,
      ⟨(some 2), .take 6, none⟩])
   (.ret))
def a_model_site_4 : AFn := ⟨7, [.tmp 2], c_model_site_4, false⟩
theorem t_model_site_4 : cFn Tryz.prog takesW Tryz.f68 = some a_model_site_4 := by kernel_rfl
theorem n_model_site_4 : (Tryz.f68.name == "runtime.NumGoroutine") = false := by kernel_rfl
/-- simulator/model.site$5 -/
def c_model_site_5 : ACode :=
  .seq (.region false [⟨(some 2), .mv (.const (.int .i64 0)), none⟩])
  (.seq (.region false [⟨(some 3), .fa 4 (.tmp 0), none⟩,
      ⟨(some 4), .ldc (.tmp 3), none⟩,
      ⟨(some 5), .mkfn 73 [] [(.tmp 1)], none⟩,
      ⟨(some 6), .call (.const (.fn 72 [] [])) [(.inr (.tmp 4)), (.inr (.const (.int .i64 32))), (.inr (.tmp 5))], none⟩,
      ⟨(some 2), .take 6, none⟩])
   (.ret))
def a_model_site_5 : AFn := ⟨7, [.tmp 2], c_model_site_5, false⟩
theorem t_model_site_5 : cFn Tryz.prog takesW Tryz.f71 = some a_model_site_5 := by kernel_rfl
theorem n_model_site_5 : (Tryz.f71.name == "runtime.NumGoroutine") = false := by kernel_rfl
/-- simulator/model.site$6 -/
def c_model_site_6 : ACode :=
  .seq (.region false [⟨(some 2), .mv (.const (.int .i64 0)), none⟩])
  (.seq (.region false [⟨(some 3), .ldc (.tmp 0), none⟩,
      ⟨(some 4), .fa 5 (.tmp 1), none⟩,
      ⟨(some 5), .ldc (.tmp 4), none⟩,
      ⟨(some 6), .call (.tmp 3) [(.inr (.tmp 5))], none⟩,
      ⟨(some 2), .take 6, none⟩])
   (.ret))
def a_model_site_6 : AFn := ⟨7, [.tmp 2], c_model_site_6, false⟩
theorem t_model_site_6 : cFn Tryz.prog takesW Tryz.f74 = some a_model_site_6 := by kernel_rfl
theorem n_model_site_6 : (Tryz.f74.name == "runtime.NumGoroutine") = false := by kernel_rfl
/-- simulator/model.site$7 -/
def c_model_site_7 : ACode :=
  .seq (.region false [⟨(some 2), .mv (.const (.int .i64 0)), none⟩])
  (.seq (.region false [⟨(some 3), .ldc (.tmp 0), none⟩,
      ⟨(some 4), .fa 6 (.tmp 1), none⟩,
      ⟨(some 5), .ldc (.tmp 4), none⟩,
      ⟨(some 6), .call (.tmp 3) [(.inr (.tmp 5))], none⟩,
      ⟨(some 2), .take 6, none⟩])
   (.ret))
def a_model_site_7 : AFn := ⟨7, [.tmp 2], c_model_site_7, false⟩
theorem t_model_site_7 : cFn Tryz.prog takesW Tryz.f75 = some a_model_site_7 := by kernel_rfl
theorem n_model_site_7 : (Tryz.f75.name == "runtime.NumGoroutine") = false := by kernel_rfl
/-- simulator/model.site$8 -/
def c_model_site_8 : ACode :=
  .seq (.region false [⟨(some 2), .mv (.const (.int .i64 0)), none⟩])
  (.seq (.region false [⟨(some 3), .ldc (.tmp 0), none⟩,
      ⟨(some 4), .fa 7 (.tmp 1), none⟩,
      ⟨(some 5), .ldc (.tmp 4), none⟩,
      ⟨(some 6), .call (.tmp 3) [(.inr (.tmp 5))], none⟩,
      ⟨(some 2), .take 6, none⟩])
   (.ret))
def a_model_site_8 : AFn := ⟨7, [.tmp 2], c_model_site_8, false⟩
theorem t_model_site_8 : cFn Tryz.prog takesW Tryz.f76 = some a_model_site_8 := by kernel_rfl
theorem n_model_site_8 : (Tryz.f76.name == "runtime.NumGoroutine") = false := by kernel_rfl
/-- simulator/model.site$9 -/
def c_model_site_9 : ACode :=
  .seq (.region false [⟨(some 2), .mv (.const (.int .i64 0)), none⟩])
  (.seq (.region false [⟨(some 3), .ldc (.tmp 0), none⟩,
      ⟨(some 4), .fa 8 (.tmp 1), none⟩,
      ⟨(some 5), .ldc (.tmp 4), none⟩,
      ⟨(some 6), .call (.tmp 3) [(.inr (.tmp 5))], none⟩,
      ⟨(some 2), .take 6, none⟩])
   (.ret))
def a_model_site_9 : AFn := ⟨7, [.tmp 2], c_model_site_9, false⟩
theorem t_model_site_9 : cFn Tryz.prog takesW Tryz.f77 = some a_model_site_9 := by kernel_rfl
theorem n_model_site_9 : (Tryz.f77.name == "runtime.NumGoroutine") = false := by kernel_rfl
/-- simulator/model.site$10 -/
def c_model_site_10 : ACode :=
  .seq (.region false [⟨(some 2), .mv (.const (.int .i64 0)), none⟩])
  (.seq (.region false [⟨(some 3), .ldc (.tmp 0), none⟩,
      ⟨(some 4), .fa 9 (.tmp 1), none⟩,
      ⟨(some 5), .ldc (.tmp 4), none⟩,
      ⟨(some 6), .call (.tmp 3) [(.inr (.tmp 5))], none⟩,
      ⟨(some 2), .take 6, none⟩])
   (.ret))
def a_model_site_10 : AFn := ⟨7, [.tmp 2], c_model_site_10, false⟩
theorem t_model_site_10 : cFn Tryz.prog takesW Tryz.f78 = some a_model_site_10 := by kernel_rfl
theorem n_model_site_10 : (Tryz.f78.name == "runtime.NumGoroutine") = false := by kernel_rfl
/-- simulator/model.site$11 -/
def c_model_site_11 : ACode :=
  .seq (.region false [⟨(some 2), .mv (.const (.int .i64 0)), none⟩])
  (.seq (.region false [⟨(some 3), .fa 10 (.tmp 0), none⟩,
      ⟨(some 4), .ldc (.tmp 3), none⟩,
      ⟨(some 5), .mkfn 81 [] [(.tmp 1)], none⟩,
      ⟨(some 6), .call (.const (.fn 80 [] [])) [(.inr (.tmp 4)), (.inr (.const (.int .i64 16))), (.inr (.tmp 5))], none⟩,
      ⟨(some 2), .take 6, none⟩])
   (.ret))
def a_model_site_11 : AFn := ⟨7, [.tmp 2], c_model_site_11, false⟩
theorem t_model_site_11 : cFn Tryz.prog takesW Tryz.f79 = some a_model_site_11 := by kernel_rfl
theorem n_model_site_11 : (Tryz.f79.name == "runtime.NumGoroutine") = false := by kernel_rfl
/-- simulator/model.site$12 -/
def c_model_site_12 : ACode :=
  .seq (.region false [⟨(some 1), .mv (.const (.int .i64 0)), none⟩])
  (.seq (.region false [⟨(some 2), .fa 11 (.tmp 0), none⟩,
      ⟨(some 3), .ldc (.tmp 2), none⟩,
      ⟨(some 4), .mkfn 85 [] [(.tmp 0)], none⟩,
      ⟨(some 5), .call (.const (.fn 84 [] [])) [(.inr (.tmp 3)), (.inr (.const (.int .i64 32))), (.inr (.tmp 4))], none⟩,
      ⟨(some 1), .take 5, none⟩])
   (.ret))
def a_model_site_12 : AFn := ⟨6, [.tmp 1], c_model_site_12, false⟩
theorem t_model_site_12 : cFn Tryz.prog takesW Tryz.f83 = some a_model_site_12 := by kernel_rfl
theorem n_model_site_12 : (Tryz.f83.name == "runtime.NumGoroutine") = false := by kernel_rfl
/-- simulator/model.site$13 -/
def c_model_site_13 : ACode :=
  .seq (.region false [⟨(some 1), .mv (.const (.int .i64 0)), none⟩])
  (.seq (.region false [⟨(some 2), .lda 13 (.tmp 0), none⟩,
      ⟨(some 3), .call (.const (.fn 88 [] [])) [(.inr (.tmp 2))], none⟩,
      ⟨(some 1), .take 3, none⟩])
   (.ret))
def a_model_site_13 : AFn := ⟨4, [.tmp 1], c_model_site_13, false⟩
theorem t_model_site_13 : cFn Tryz.prog takesW Tryz.f87 = some a_model_site_13 := by kernel_rfl
theorem n_model_site_13 : (Tryz.f87.name == "runtime.NumGoroutine") = false := by kernel_rfl
def c_model_first_l0b : ACode :=
  .seq (.region false [⟨(some 9), .bin .lss .prim (.tmp 8) (.tmp 7), none⟩])
  (.seq (.cond (.tmp 9) (.skip)
    (.exit 0))
   (.seq (.block 1 (.seq (.region false [⟨(some 10), .ia (.slice 1) (.tmp 6) (.tmp 8), none⟩,
         ⟨(some 11), .ldc (.tmp 10), none⟩,
         ⟨(some 4), .take 11, none⟩])
      (.seq (.region false [⟨(some 12), .mv (.tmp 4), none⟩,
          ⟨(some 13), .call (.tmp 12) [], none⟩,
          ⟨(some 5), .take 13, none⟩])
       (.seq (.region false [⟨(some 14), .mv (.tmp 5), none⟩,
           ⟨(some 15), .bin .neq .prim (.tmp 14) (.const (.int .i64 0)), none⟩])
        (.cond (.tmp 15) (.seq (.region false [⟨(some 16), .take 5, none⟩,
             ⟨(some 2), .take 16, none⟩])
          (.ret))
         (.skip))))))
    (.region false [⟨(some 17), .bin .add .prim (.tmp 8) (.const (.int .i64 1)), none⟩,
       ⟨(some 8), .mv (.tmp 17), none⟩])))
def c_model_first_l0 : ACode := .loop c_model_first_l0b
def c_model_first_j1 : ACode :=
  .seq (.region false [⟨(some 2), .mv (.const (.int .i64 0)), none⟩])
  (.ret)
/-- simulator/model.first -/
def c_model_first : ACode :=
  .seq (.region false [⟨(some 2), .mv (.const (.int .i64 0)), none⟩])
  (.seq (.seq (.region false [⟨(some 6), .mv (.tmp 0), none⟩,
       ⟨(some 7), .len .slice (.tmp 6), none⟩,
       ⟨(some 8), .mv (.const (.int .i64 0)), none⟩])
    (.block 0 (c_model_first_l0)))
   c_model_first_j1)
def a_model_first : AFn := ⟨18, [.tmp 2], c_model_first, false⟩
theorem t_model_first : cFn Tryz.prog takesW Tryz.f60 = some a_model_first := by kernel_rfl
theorem n_model_first : (Tryz.f60.name == "runtime.NumGoroutine") = false := by kernel_rfl
/-- simulator/model.within -/
def c_model_within : ACode :=
  .seq (.region false [⟨(some 6), .mv (.const (.bool false)), none⟩])
  (.seq (.region false [⟨(some 7), .mv (.tmp 0), none⟩,
      ⟨(some 8), .mv (.tmp 1), none⟩,
      ⟨(some 9), .bin .geq .prim (.tmp 7) (.tmp 8), none⟩,
      ⟨(some 10), .mv (.tmp 9), none⟩,
      ⟨(some 11), .mv (.tmp 0), (some (10, true))⟩,
      ⟨(some 12), .mv (.tmp 2), (some (10, true))⟩,
      ⟨(some 13), .bin .leq .prim (.tmp 11) (.tmp 12), (some (10, true))⟩,
      ⟨(some 14), .pick (.tmp 10) (.tmp 13) (.const (.bool false)), none⟩,
      ⟨(some 6), .take 14, none⟩])
   (.ret))
def a_model_within : AFn := ⟨15, [.tmp 6], c_model_within, false⟩
theorem t_model_within : cFn Tryz.prog takesW Tryz.f65 = some a_model_within := by kernel_rfl
theorem n_model_within : (Tryz.f65.name == "runtime.NumGoroutine") = false := by kernel_rfl
def c_slices_Equal_Lapi_Change_api_Change__l0b : ACode :=
  .seq (.region false [⟨(some 14), .bin .lss .prim (.tmp 13) (.tmp 12), none⟩])
  (.seq (.cond (.tmp 14) (.skip)
    (.exit 0))
   (.seq (.block 1 (.seq (.region false [⟨(some 15), .mv (.tmp 13), none⟩,
         ⟨(some 5), .take 15, none⟩])
      (.seq (.region true [⟨(some 16), .mv (.tmp 0), none⟩,
          ⟨(some 17), .mv (.tmp 5), none⟩,
          ⟨(some 18), .ia (.slice 2) (.tmp 16) (.tmp 17), none⟩,
          ⟨(some 19), .lda 2 (.tmp 18), none⟩,
          ⟨(some 20), .mv (.tmp 1), none⟩,
          ⟨(some 21), .mv (.tmp 5), none⟩,
          ⟨(some 22), .ia (.slice 2) (.tmp 20) (.tmp 21), none⟩,
          ⟨(some 23), .lda 2 (.tmp 22), none⟩,
          ⟨(some 24), .bin .neq (.struct [.int, .int]) (.tmp 19) (.tmp 23), none⟩])
       (.cond (.tmp 24) (.seq (.region false [⟨(some 4), .mv (.const (.bool false)), none⟩])
         (.ret))
        (.skip)))))
    (.region false [⟨(some 25), .bin .add .prim (.tmp 13) (.const (.int .i64 1)), none⟩,
       ⟨(some 13), .mv (.tmp 25), none⟩])))
def c_slices_Equal_Lapi_Change_api_Change__l0 : ACode := .loop c_slices_Equal_Lapi_Change_api_Change__l0b
def c_slices_Equal_Lapi_Change_api_Change__j1 : ACode :=
  .seq (.region false [⟨(some 4), .mv (.const (.bool true)), none⟩])
  (.ret)
/-- slices.Equal[[]simulator/api.Change,simulator/api.Change] -/
def c_slices_Equal_Lapi_Change_api_Change_ : ACode :=
  .seq (.region false [⟨(some 4), .mv (.const (.bool false)), none⟩])
  (.seq (.seq (.region false [⟨(some 6), .mv (.tmp 0), none⟩,
       ⟨(some 7), .len .slice (.tmp 6), none⟩,
       ⟨(some 8), .mv (.tmp 1), none⟩,
       ⟨(some 9), .len .slice (.tmp 8), none⟩,
       ⟨(some 10), .bin .neq .prim (.tmp 7) (.tmp 9), none⟩])
    (.cond (.tmp 10) (.seq (.region false [⟨(some 4), .mv (.const (.bool false)), none⟩])
      (.ret))
     (.skip)))
   (.seq (.seq (.region false [⟨(some 11), .mv (.tmp 0), none⟩,
        ⟨(some 12), .len .slice (.tmp 11), none⟩,
        ⟨(some 13), .mv (.const (.int .i64 0)), none⟩])
     (.block 0 (c_slices_Equal_Lapi_Change_api_Change__l0)))
    c_slices_Equal_Lapi_Change_api_Change__j1))
def a_slices_Equal_Lapi_Change_api_Change_ : AFn := ⟨26, [.tmp 4], c_slices_Equal_Lapi_Change_api_Change_, false⟩
theorem t_slices_Equal_Lapi_Change_api_Change_ : cFn Tryz.prog takesW Tryz.f143 = some a_slices_Equal_Lapi_Change_api_Change_ := by kernel_rfl
theorem n_slices_Equal_Lapi_Change_api_Change_ : (Tryz.f143.name == "runtime.NumGoroutine") = false := by kernel_rfl
/-- simulator/dist.Same -/
def c_dist_Same : ACode :=
  .seq (.region false [⟨(some 2), .box 88 6 (.tmp 0), none⟩,
     ⟨(some 3), .box 88 6 (.tmp 1), none⟩,
     ⟨(some 4), .mv (.const (.bool false)), none⟩])
  (.seq (.region false [⟨(some 5), .fa 0 (.tmp 2), none⟩,
      ⟨(some 6), .ldc (.tmp 5), none⟩,
      ⟨(some 7), .fa 0 (.tmp 3), none⟩,
      ⟨(some 8), .ldc (.tmp 7), none⟩,
      ⟨(some 9), .bin .eql .prim (.tmp 6) (.tmp 8), none⟩,
      ⟨(some 10), .mv (.tmp 9), none⟩,
      ⟨(some 11), .fa 1 (.tmp 2), (some (10, true))⟩,
      ⟨(some 12), .ldc (.tmp 11), (some (10, true))⟩,
      ⟨(some 13), .fa 1 (.tmp 3), (some (10, true))⟩,
      ⟨(some 14), .ldc (.tmp 13), (some (10, true))⟩,
      ⟨(some 15), .bin .eql .prim (.tmp 12) (.tmp 14), (some (10, true))⟩,
      ⟨(some 16), .pick (.tmp 10) (.tmp 15) (.const (.bool false)), none⟩,
      ⟨(some 17), .mv (.tmp 16), none⟩,
      ⟨(some 18), .fa 2 (.tmp 2), (some (17, true))⟩,
      ⟨(some 19), .ldc (.tmp 18), (some (17, true))⟩,
      ⟨(some 20), .fa 2 (.tmp 3), (some (17, true))⟩,
      ⟨(some 21), .ldc (.tmp 20), (some (17, true))⟩,
      ⟨(some 22), .bin .eql .prim (.tmp 19) (.tmp 21), (some (17, true))⟩,
      ⟨(some 23), .pick (.tmp 17) (.tmp 22) (.const (.bool false)), none⟩,
      ⟨(some 24), .mv (.tmp 23), none⟩,
      ⟨(some 25), .fa 3 (.tmp 2), (some (24, true))⟩,
      ⟨(some 26), .ldc (.tmp 25), (some (24, true))⟩,
      ⟨(some 27), .fa 3 (.tmp 3), (some (24, true))⟩,
      ⟨(some 28), .ldc (.tmp 27), (some (24, true))⟩,
      ⟨(some 29), .bin .eql .prim (.tmp 26) (.tmp 28), (some (24, true))⟩,
      ⟨(some 30), .pick (.tmp 24) (.tmp 29) (.const (.bool false)), none⟩,
      ⟨(some 31), .mv (.tmp 30), none⟩,
      ⟨(some 32), .fa 4 (.tmp 2), (some (31, true))⟩,
      ⟨(some 33), .ldc (.tmp 32), (some (31, true))⟩,
      ⟨(some 34), .fa 4 (.tmp 3), (some (31, true))⟩,
      ⟨(some 35), .ldc (.tmp 34), (some (31, true))⟩,
      ⟨(some 36), .call (.const (.fn 146 [] [])) [(.inr (.tmp 33)), (.inr (.tmp 35))], (some (31, true))⟩,
      ⟨(some 37), .pick (.tmp 31) (.tmp 36) (.const (.bool false)), none⟩,
      ⟨(some 38), .mv (.tmp 37), none⟩,
      ⟨(some 39), .fa 5 (.tmp 2), (some (38, true))⟩,
      ⟨(some 40), .ldc (.tmp 39), (some (38, true))⟩,
      ⟨(some 41), .fa 5 (.tmp 3), (some (38, true))⟩,
      ⟨(some 42), .ldc (.tmp 41), (some (38, true))⟩,
      ⟨(some 43), .call (.const (.fn 146 [] [])) [(.inr (.tmp 40)), (.inr (.tmp 42))], (some (38, true))⟩,
      ⟨(some 44), .pick (.tmp 38) (.tmp 43) (.const (.bool false)), none⟩,
      ⟨(some 4), .take 44, none⟩])
   (.ret))
def a_dist_Same : AFn := ⟨45, [.tmp 4], c_dist_Same, false⟩
theorem t_dist_Same : cFn Tryz.prog takesW Tryz.f127 = some a_dist_Same := by kernel_rfl
theorem n_dist_Same : (Tryz.f127.name == "runtime.NumGoroutine") = false := by kernel_rfl
def c_slices_Equal_Lapi_Field_api_Field__l0b : ACode :=
  .seq (.region false [⟨(some 14), .bin .lss .prim (.tmp 13) (.tmp 12), none⟩])
  (.seq (.cond (.tmp 14) (.skip)
    (.exit 0))
   (.seq (.block 1 (.seq (.region false [⟨(some 15), .mv (.tmp 13), none⟩,
         ⟨(some 5), .take 15, none⟩])
      (.seq (.region true [⟨(some 16), .mv (.tmp 0), none⟩,
          ⟨(some 17), .mv (.tmp 5), none⟩,
          ⟨(some 18), .ia (.slice 2) (.tmp 16) (.tmp 17), none⟩,
          ⟨(some 19), .lda 2 (.tmp 18), none⟩,
          ⟨(some 20), .mv (.tmp 1), none⟩,
          ⟨(some 21), .mv (.tmp 5), none⟩,
          ⟨(some 22), .ia (.slice 2) (.tmp 20) (.tmp 21), none⟩,
          ⟨(some 23), .lda 2 (.tmp 22), none⟩,
          ⟨(some 24), .bin .neq (.struct [.str, .int]) (.tmp 19) (.tmp 23), none⟩])
       (.cond (.tmp 24) (.seq (.region false [⟨(some 4), .mv (.const (.bool false)), none⟩])
         (.ret))
        (.skip)))))
    (.region false [⟨(some 25), .bin .add .prim (.tmp 13) (.const (.int .i64 1)), none⟩,
       ⟨(some 13), .mv (.tmp 25), none⟩])))
def c_slices_Equal_Lapi_Field_api_Field__l0 : ACode := .loop c_slices_Equal_Lapi_Field_api_Field__l0b
def c_slices_Equal_Lapi_Field_api_Field__j1 : ACode :=
  .seq (.region false [⟨(some 4), .mv (.const (.bool true)), none⟩])
  (.ret)
/-- slices.Equal[[]simulator/api.Field,simulator/api.Field] -/
def c_slices_Equal_Lapi_Field_api_Field_ : ACode :=
  .seq (.region false [⟨(some 4), .mv (.const (.bool false)), none⟩])
  (.seq (.seq (.region false [⟨(some 6), .mv (.tmp 0), none⟩,
       ⟨(some 7), .len .slice (.tmp 6), none⟩,
       ⟨(some 8), .mv (.tmp 1), none⟩,
       ⟨(some 9), .len .slice (.tmp 8), none⟩,
       ⟨(some 10), .bin .neq .prim (.tmp 7) (.tmp 9), none⟩])
    (.cond (.tmp 10) (.seq (.region false [⟨(some 4), .mv (.const (.bool false)), none⟩])
      (.ret))
     (.skip)))
   (.seq (.seq (.region false [⟨(some 11), .mv (.tmp 0), none⟩,
        ⟨(some 12), .len .slice (.tmp 11), none⟩,
        ⟨(some 13), .mv (.const (.int .i64 0)), none⟩])
     (.block 0 (c_slices_Equal_Lapi_Field_api_Field__l0)))
    c_slices_Equal_Lapi_Field_api_Field__j1))
def a_slices_Equal_Lapi_Field_api_Field_ : AFn := ⟨26, [.tmp 4], c_slices_Equal_Lapi_Field_api_Field_, false⟩
theorem t_slices_Equal_Lapi_Field_api_Field_ : cFn Tryz.prog takesW Tryz.f144 = some a_slices_Equal_Lapi_Field_api_Field_ := by kernel_rfl
theorem n_slices_Equal_Lapi_Field_api_Field_ : (Tryz.f144.name == "runtime.NumGoroutine") = false := by kernel_rfl
/-- simulator/stmt.Same -/
def c_stmt_Same : ACode :=
  .seq (.region false [⟨(some 4), .mv (.const (.bool false)), none⟩])
  (.seq (.region false [⟨(some 5), .mv (.tmp 0), none⟩,
      ⟨(some 6), .mv (.tmp 1), none⟩,
      ⟨(some 7), .call (.const (.fn 162 [] [])) [(.inr (.tmp 5)), (.inr (.tmp 6)), (.inr (.const (.fn 163 [] [])))], none⟩,
      ⟨(some 4), .take 7, none⟩])
   (.ret))
def a_stmt_Same : AFn := ⟨8, [.tmp 4], c_stmt_Same, false⟩
theorem t_stmt_Same : cFn Tryz.prog takesW Tryz.f145 = some a_stmt_Same := by kernel_rfl
theorem n_stmt_Same : (Tryz.f145.name == "runtime.NumGoroutine") = false := by kernel_rfl
def c_slices_Equal_Lint_int__l0b : ACode :=
  .seq (.region false [⟨(some 14), .bin .lss .prim (.tmp 13) (.tmp 12), none⟩])
  (.seq (.cond (.tmp 14) (.skip)
    (.exit 0))
   (.seq (.block 1 (.seq (.region false [⟨(some 15), .mv (.tmp 13), none⟩,
         ⟨(some 5), .take 15, none⟩])
      (.seq (.region true [⟨(some 16), .mv (.tmp 0), none⟩,
          ⟨(some 17), .mv (.tmp 5), none⟩,
          ⟨(some 18), .ia (.slice 1) (.tmp 16) (.tmp 17), none⟩,
          ⟨(some 19), .ldc (.tmp 18), none⟩,
          ⟨(some 20), .mv (.tmp 1), none⟩,
          ⟨(some 21), .mv (.tmp 5), none⟩,
          ⟨(some 22), .ia (.slice 1) (.tmp 20) (.tmp 21), none⟩,
          ⟨(some 23), .ldc (.tmp 22), none⟩,
          ⟨(some 24), .bin .neq .prim (.tmp 19) (.tmp 23), none⟩])
       (.cond (.tmp 24) (.seq (.region false [⟨(some 4), .mv (.const (.bool false)), none⟩])
         (.ret))
        (.skip)))))
    (.region false [⟨(some 25), .bin .add .prim (.tmp 13) (.const (.int .i64 1)), none⟩,
       ⟨(some 13), .mv (.tmp 25), none⟩])))
def c_slices_Equal_Lint_int__l0 : ACode := .loop c_slices_Equal_Lint_int__l0b
def c_slices_Equal_Lint_int__j1 : ACode :=
  .seq (.region false [⟨(some 4), .mv (.const (.bool true)), none⟩])
  (.ret)
/-- slices.Equal[[]int,int] -/
def c_slices_Equal_Lint_int_ : ACode :=
  .seq (.region false [⟨(some 4), .mv (.const (.bool false)), none⟩])
  (.seq (.seq (.region false [⟨(some 6), .mv (.tmp 0), none⟩,
       ⟨(some 7), .len .slice (.tmp 6), none⟩,
       ⟨(some 8), .mv (.tmp 1), none⟩,
       ⟨(some 9), .len .slice (.tmp 8), none⟩,
       ⟨(some 10), .bin .neq .prim (.tmp 7) (.tmp 9), none⟩])
    (.cond (.tmp 10) (.seq (.region false [⟨(some 4), .mv (.const (.bool false)), none⟩])
      (.ret))
     (.skip)))
   (.seq (.seq (.region false [⟨(some 11), .mv (.tmp 0), none⟩,
        ⟨(some 12), .len .slice (.tmp 11), none⟩,
        ⟨(some 13), .mv (.const (.int .i64 0)), none⟩])
     (.block 0 (c_slices_Equal_Lint_int__l0)))
    c_slices_Equal_Lint_int__j1))
def a_slices_Equal_Lint_int_ : AFn := ⟨26, [.tmp 4], c_slices_Equal_Lint_int_, false⟩
theorem t_slices_Equal_Lint_int_ : cFn Tryz.prog takesW Tryz.f146 = some a_slices_Equal_Lint_int_ := by kernel_rfl
theorem n_slices_Equal_Lint_int_ : (Tryz.f146.name == "runtime.NumGoroutine") = false := by kernel_rfl
def c_slices_Equal_Lapi_Term_api_Term__l0b : ACode :=
  .seq (.region false [⟨(some 14), .bin .lss .prim (.tmp 13) (.tmp 12), none⟩])
  (.seq (.cond (.tmp 14) (.skip)
    (.exit 0))
   (.seq (.block 1 (.seq (.region false [⟨(some 15), .mv (.tmp 13), none⟩,
         ⟨(some 5), .take 15, none⟩])
      (.seq (.region true [⟨(some 16), .mv (.tmp 0), none⟩,
          ⟨(some 17), .mv (.tmp 5), none⟩,
          ⟨(some 18), .ia (.slice 3) (.tmp 16) (.tmp 17), none⟩,
          ⟨(some 19), .lda 3 (.tmp 18), none⟩,
          ⟨(some 20), .mv (.tmp 1), none⟩,
          ⟨(some 21), .mv (.tmp 5), none⟩,
          ⟨(some 22), .ia (.slice 3) (.tmp 20) (.tmp 21), none⟩,
          ⟨(some 23), .lda 3 (.tmp 22), none⟩,
          ⟨(some 24), .bin .neq (.struct [.int, .str, .str]) (.tmp 19) (.tmp 23), none⟩])
       (.cond (.tmp 24) (.seq (.region false [⟨(some 4), .mv (.const (.bool false)), none⟩])
         (.ret))
        (.skip)))))
    (.region false [⟨(some 25), .bin .add .prim (.tmp 13) (.const (.int .i64 1)), none⟩,
       ⟨(some 13), .mv (.tmp 25), none⟩])))
def c_slices_Equal_Lapi_Term_api_Term__l0 : ACode := .loop c_slices_Equal_Lapi_Term_api_Term__l0b
def c_slices_Equal_Lapi_Term_api_Term__j1 : ACode :=
  .seq (.region false [⟨(some 4), .mv (.const (.bool true)), none⟩])
  (.ret)
/-- slices.Equal[[]simulator/api.Term,simulator/api.Term] -/
def c_slices_Equal_Lapi_Term_api_Term_ : ACode :=
  .seq (.region false [⟨(some 4), .mv (.const (.bool false)), none⟩])
  (.seq (.seq (.region false [⟨(some 6), .mv (.tmp 0), none⟩,
       ⟨(some 7), .len .slice (.tmp 6), none⟩,
       ⟨(some 8), .mv (.tmp 1), none⟩,
       ⟨(some 9), .len .slice (.tmp 8), none⟩,
       ⟨(some 10), .bin .neq .prim (.tmp 7) (.tmp 9), none⟩])
    (.cond (.tmp 10) (.seq (.region false [⟨(some 4), .mv (.const (.bool false)), none⟩])
      (.ret))
     (.skip)))
   (.seq (.seq (.region false [⟨(some 11), .mv (.tmp 0), none⟩,
        ⟨(some 12), .len .slice (.tmp 11), none⟩,
        ⟨(some 13), .mv (.const (.int .i64 0)), none⟩])
     (.block 0 (c_slices_Equal_Lapi_Term_api_Term__l0)))
    c_slices_Equal_Lapi_Term_api_Term__j1))
def a_slices_Equal_Lapi_Term_api_Term_ : AFn := ⟨26, [.tmp 4], c_slices_Equal_Lapi_Term_api_Term_, false⟩
theorem t_slices_Equal_Lapi_Term_api_Term_ : cFn Tryz.prog takesW Tryz.f147 = some a_slices_Equal_Lapi_Term_api_Term_ := by kernel_rfl
theorem n_slices_Equal_Lapi_Term_api_Term_ : (Tryz.f147.name == "runtime.NumGoroutine") = false := by kernel_rfl
end Go.Proofs.YtlmfmmclnboglaaGreat
