/-
  The functions in the evaluator's terms, as the compile lays them; printed by wip/abs/T6.lean.txt.
-/
import Derived.Test.YtlmfmmclnboglaaGreatRows
import Derived.Test.YtlmfmmclnboglaaGreatQ2
import Derived.ProofKit
namespace Go.Proofs.YtlmfmmclnboglaaGreat
open Go Go.Proofs.YtlmfmmclnboglaaGreat.Abs
set_option maxRecDepth 100000
set_option maxHeartbeats 0
set_option linter.all false
abbrev HP := List AObj
abbrev GT := Nat → Option (List AV)
abbrev KT := FuncId → List AV → HP → KR
def takes : FuncId → List Nat := fun _ => []
abbrev F_law11_ModelFinds : FuncId := 4
abbrev F_law11_light : FuncId := 8
abbrev F_law11_awake : FuncId := 9
abbrev F_model_Link : FuncId := 12
abbrev F_r11_Link : FuncId := 13
abbrev F_model_Site : FuncId := 14
abbrev F_r11_Site : FuncId := 15
abbrev F_model_Routine : FuncId := 16
abbrev F_r11_Routine : FuncId := 17
abbrev F_model_Kind : FuncId := 18
abbrev F_r11_Kind : FuncId := 19
abbrev F_model_Index : FuncId := 20
abbrev F_r11_Index : FuncId := 21
abbrev F_r11_Names : FuncId := 22
abbrev F_slices_IndexFunc_Lapi_Link_api_Link_ : FuncId := 40
abbrev F_model_Link_1 : FuncId := 41
abbrev F_slices_IndexFunc_Lapi_SiteDecl_api_SiteDecl_ : FuncId := 42
abbrev F_model_Site_1 : FuncId := 43
abbrev F_slices_IndexFunc_Lapi_Routine_api_Routine_ : FuncId := 44
abbrev F_model_Routine_1 : FuncId := 45
abbrev F_r07_Find : FuncId := 46
abbrev F_model_place : FuncId := 47
abbrev F_slices_IndexFunc_Lapi_Value_api_Value_ : FuncId := 99
abbrev F_model_place_1 : FuncId := 100
abbrev F_slices_IndexFunc_Lapi_ResourceDecl_api_ResourceDecl_ : FuncId := 101
abbrev F_model_place_2 : FuncId := 102
abbrev F_slices_IndexFunc_Lapi_StoreDecl_api_StoreDecl_ : FuncId := 103
abbrev F_model_place_3 : FuncId := 104
abbrev F_slices_IndexFunc_Lapi_BeltDecl_api_BeltDecl_ : FuncId := 105
abbrev F_model_place_4 : FuncId := 106
abbrev F_slices_Index_Lstring_string_ : FuncId := 107
abbrev ty_string : TypeId := 9
abbrev ty_api_Model : TypeId := 26
abbrev ty_Lstring : TypeId := 37
abbrev ty_api_SiteDecl : TypeId := 42
abbrev ty_api_Link : TypeId := 49
abbrev ty_api_Value : TypeId := 69
abbrev ty_api_Routine : TypeId := 79
abbrev ty_api_ResourceDecl : TypeId := 92
abbrev ty_api_StoreDecl : TypeId := 95
abbrev ty_api_BeltDecl : TypeId := 97
def c_law11_ModelFinds_l0b : ACode :=
  .seq (.seq (.region false [⟨(some 48), .mv (.tmp 11), none⟩,
      ⟨(some 49), .fa 2 (.tmp 3), none⟩,
      ⟨(some 50), .ldc (.tmp 49), none⟩,
      ⟨(some 51), .len .slice (.tmp 50), none⟩,
      ⟨(some 52), .bin .lss .prim (.tmp 48) (.tmp 51), none⟩])
   (.cond (.tmp 52) (.skip)
    (.exit 0)))
  (.seq (.block 1 (.seq (.region false [⟨(some 55), .fa 2 (.tmp 3), none⟩,
        ⟨(some 56), .ldc (.tmp 55), none⟩,
        ⟨(some 57), .mv (.tmp 11), none⟩,
        ⟨(some 58), .ia (.slice 13) (.tmp 56) (.tmp 57), none⟩,
        ⟨(some 59), .lda 13 (.tmp 58), none⟩,
        ⟨(some 12), .mk 42 [(.str []), (.own 3 []), (.own 17 []), (.own 3 []), (.own 3 []), (.own 1 []), (.own 1 []), (.own 1 []), (.own 1 []), (.own 1 []), (.own 4 []), (.own 5 []), (.own 3 [])], none⟩,
        ⟨none, .st 13 (.tmp 12) (.tmp 59), none⟩])
     (.seq (.region true [⟨(some 60), .lda 13 (.tmp 12), none⟩,
         ⟨(some 61), .mv (.tmp 1), none⟩,
         ⟨(some 62), .call (.const (.fn 16 [] [])) [(.inr (.tmp 60)), (.inr (.tmp 61))], none⟩,
         ⟨(some 63), .lda 13 (.tmp 12), none⟩,
         ⟨(some 64), .mv (.tmp 1), none⟩,
         ⟨(some 65), .call (.const (.fn 17 [] [])) [(.inr (.tmp 63)), (.inr (.tmp 64))], none⟩,
         ⟨(some 66), .bin .neq .prim (.tmp 62) (.tmp 65), none⟩,
         ⟨(some 67), .mv (.tmp 66), none⟩,
         ⟨(some 68), .lda 13 (.tmp 12), (some (67, false))⟩,
         ⟨(some 69), .mv (.tmp 1), (some (67, false))⟩,
         ⟨(some 70), .call (.const (.fn 18 [] [])) [(.inr (.tmp 68)), (.inr (.tmp 69))], (some (67, false))⟩,
         ⟨(some 71), .lda 13 (.tmp 12), (some (67, false))⟩,
         ⟨(some 72), .mv (.tmp 1), (some (67, false))⟩,
         ⟨(some 73), .call (.const (.fn 19 [] [])) [(.inr (.tmp 71)), (.inr (.tmp 72))], (some (67, false))⟩,
         ⟨(some 74), .bin .neq .prim (.tmp 70) (.tmp 73), (some (67, false))⟩,
         ⟨(some 75), .pick (.tmp 67) (.const (.bool true)) (.tmp 74), none⟩,
         ⟨(some 76), .mv (.tmp 75), none⟩,
         ⟨(some 77), .lda 13 (.tmp 12), (some (76, false))⟩,
         ⟨(some 78), .mv (.tmp 1), (some (76, false))⟩,
         ⟨(some 79), .call (.const (.fn 20 [] [])) [(.inr (.tmp 77)), (.inr (.tmp 78))], (some (76, false))⟩,
         ⟨(some 80), .lda 13 (.tmp 12), (some (76, false))⟩,
         ⟨(some 81), .mv (.tmp 1), (some (76, false))⟩,
         ⟨(some 82), .call (.const (.fn 21 [] [])) [(.inr (.tmp 80)), (.inr (.tmp 81))], (some (76, false))⟩,
         ⟨(some 83), .bin .neq .prim (.tmp 79) (.tmp 82), (some (76, false))⟩,
         ⟨(some 84), .pick (.tmp 76) (.const (.bool true)) (.tmp 83), none⟩])
      (.cond (.tmp 84) (.seq (.region false [⟨(some 6), .mv (.const (.bool false)), none⟩])
        (.ret))
       (.skip)))))
   (.region false [⟨(some 53), .mv (.tmp 11), none⟩,
      ⟨(some 54), .bin .add .prim (.tmp 53) (.const (.int .i64 1)), none⟩,
      ⟨(some 11), .take 54, none⟩]))
def c_law11_ModelFinds_l0 : ACode := .loop c_law11_ModelFinds_l0b
def c_law11_ModelFinds_j1 : ACode :=
  .seq (.region false [⟨(some 85), .call (.const (.fn 9 [] [])) [], none⟩,
     ⟨(some 6), .take 85, none⟩])
  (.ret)
/-- simulator/simulatorlaw11.ModelFinds -/
def c_law11_ModelFinds : ACode :=
  .seq (.region false [⟨(some 3), .box 26 4 (.tmp 0), none⟩,
     ⟨(some 6), .mv (.const (.bool false)), none⟩])
  (.seq (.seq (.region false [⟨(some 13), .lda 4 (.tmp 3), none⟩,
       ⟨(some 14), .call (.const (.fn 8 [] [])) [(.inr (.tmp 13))], none⟩,
       ⟨(some 15), .un .not (.tmp 14), none⟩])
    (.cond (.tmp 15) (.seq (.region false [⟨(some 16), .call (.const (.fn 9 [] [])) [], none⟩,
         ⟨(some 6), .take 16, none⟩])
      (.ret))
     (.skip)))
   (.seq (.region false [⟨(some 18), .lda 4 (.tmp 3), none⟩,
       ⟨(some 19), .mv (.tmp 1), none⟩,
       ⟨(some 20), .mv (.tmp 2), none⟩,
       ⟨(some 21), .call (.const (.fn 12 [] [])) [(.inr (.tmp 18)), (.inr (.tmp 19)), (.inr (.tmp 20))], none⟩,
       ⟨(some 17), .mv (.tmp 21), none⟩,
       ⟨(some 22), .extract (.tmp 17) 0, none⟩,
       ⟨(some 23), .extract (.tmp 17) 1, none⟩,
       ⟨(some 7), .take 22, none⟩,
       ⟨(some 8), .take 23, none⟩])
    (.seq (.region false [⟨(some 25), .lda 4 (.tmp 3), none⟩,
        ⟨(some 26), .mv (.tmp 1), none⟩,
        ⟨(some 27), .mv (.tmp 2), none⟩,
        ⟨(some 28), .call (.const (.fn 13 [] [])) [(.inr (.tmp 25)), (.inr (.tmp 26)), (.inr (.tmp 27))], none⟩,
        ⟨(some 24), .mv (.tmp 28), none⟩,
        ⟨(some 29), .extract (.tmp 24) 0, none⟩,
        ⟨(some 30), .extract (.tmp 24) 1, none⟩,
        ⟨(some 9), .take 29, none⟩,
        ⟨(some 10), .take 30, none⟩])
     (.seq (.seq (.region true [⟨(some 31), .lda 4 (.tmp 3), none⟩,
          ⟨(some 32), .mv (.tmp 1), none⟩,
          ⟨(some 33), .call (.const (.fn 14 [] [])) [(.inr (.tmp 31)), (.inr (.tmp 32))], none⟩,
          ⟨(some 34), .lda 4 (.tmp 3), none⟩,
          ⟨(some 35), .mv (.tmp 1), none⟩,
          ⟨(some 36), .call (.const (.fn 15 [] [])) [(.inr (.tmp 34)), (.inr (.tmp 35))], none⟩,
          ⟨(some 37), .bin .neq .prim (.tmp 33) (.tmp 36), none⟩,
          ⟨(some 38), .mv (.tmp 37), none⟩,
          ⟨(some 39), .mv (.tmp 7), (some (38, false))⟩,
          ⟨(some 40), .mv (.tmp 9), (some (38, false))⟩,
          ⟨(some 41), .bin .neq .prim (.tmp 39) (.tmp 40), (some (38, false))⟩,
          ⟨(some 42), .pick (.tmp 38) (.const (.bool true)) (.tmp 41), none⟩,
          ⟨(some 43), .mv (.tmp 42), none⟩,
          ⟨(some 44), .mv (.tmp 8), (some (43, false))⟩,
          ⟨(some 45), .mv (.tmp 10), (some (43, false))⟩,
          ⟨(some 46), .bin .neq .bool (.tmp 44) (.tmp 45), (some (43, false))⟩,
          ⟨(some 47), .pick (.tmp 43) (.const (.bool true)) (.tmp 46), none⟩])
       (.cond (.tmp 47) (.seq (.region false [⟨(some 6), .mv (.const (.bool false)), none⟩])
         (.ret))
        (.skip)))
      (.seq (.seq (.region false [⟨(some 11), .mv (.const (.int .i64 0)), none⟩])
        (.block 0 (c_law11_ModelFinds_l0)))
       c_law11_ModelFinds_j1)))))
def a_law11_ModelFinds : AFn := ⟨86, [.tmp 6], c_law11_ModelFinds, false⟩
def p_law11_ModelFinds : List Nat := [39, 40, 41, 44, 45, 46, 68, 69, 70, 71, 72, 73, 74, 77, 78, 79, 80, 81, 82, 83]
theorem t_law11_ModelFinds : cFn Tryz.prog takes Tryz.f4 = some a_law11_ModelFinds := by kernel_rfl
theorem n_law11_ModelFinds : (Tryz.f4.name == "runtime.NumGoroutine") = false := by kernel_rfl
def c_law11_light_l1b : ACode :=
  .seq (.seq (.region false [⟨(some 36), .mv (.tmp 6), none⟩,
      ⟨(some 37), .mv (.tmp 5), none⟩,
      ⟨(some 38), .len .slice (.tmp 37), none⟩,
      ⟨(some 39), .bin .lss .prim (.tmp 36) (.tmp 38), none⟩])
   (.cond (.tmp 39) (.skip)
    (.exit 2)))
  (.seq (.block 3 (.region false [⟨(some 42), .mv (.tmp 3), none⟩,
       ⟨(some 43), .mv (.tmp 5), none⟩,
       ⟨(some 44), .mv (.tmp 6), none⟩,
       ⟨(some 45), .ia (.slice 1) (.tmp 43) (.tmp 44), none⟩,
       ⟨(some 46), .ldc (.tmp 45), none⟩,
       ⟨(some 47), .len .slice (.tmp 46), none⟩,
       ⟨(some 48), .bin .add .prim (.tmp 42) (.tmp 47), none⟩,
       ⟨(some 3), .take 48, none⟩]))
   (.region false [⟨(some 40), .mv (.tmp 6), none⟩,
      ⟨(some 41), .bin .add .prim (.tmp 40) (.const (.int .i64 1)), none⟩,
      ⟨(some 6), .take 41, none⟩]))
def c_law11_light_l1 : ACode := .loop c_law11_light_l1b
def c_law11_light_j2 : ACode :=
  .region true [⟨(some 49), .mv (.tmp 3), none⟩,
    ⟨(some 50), .fa 2 (.tmp 1), none⟩,
    ⟨(some 51), .ldc (.tmp 50), none⟩,
    ⟨(some 52), .mv (.tmp 4), none⟩,
    ⟨(some 53), .ia (.slice 13) (.tmp 51) (.tmp 52), none⟩,
    ⟨(some 54), .fa 11 (.tmp 53), none⟩,
    ⟨(some 55), .ldc (.tmp 54), none⟩,
    ⟨(some 56), .len .slice (.tmp 55), none⟩,
    ⟨(some 57), .fa 2 (.tmp 1), none⟩,
    ⟨(some 58), .ldc (.tmp 57), none⟩,
    ⟨(some 59), .mv (.tmp 4), none⟩,
    ⟨(some 60), .ia (.slice 13) (.tmp 58) (.tmp 59), none⟩,
    ⟨(some 61), .fa 12 (.tmp 60), none⟩,
    ⟨(some 62), .ldc (.tmp 61), none⟩,
    ⟨(some 63), .len .slice (.tmp 62), none⟩,
    ⟨(some 64), .bin .add .prim (.tmp 56) (.tmp 63), none⟩,
    ⟨(some 65), .bin .add .prim (.tmp 49) (.tmp 64), none⟩,
    ⟨(some 3), .mv (.tmp 65), none⟩]
def c_law11_light_j3 : ACode :=
  .region false [⟨(some 28), .mv (.tmp 4), none⟩,
    ⟨(some 29), .bin .add .prim (.tmp 28) (.const (.int .i64 1)), none⟩,
    ⟨(some 4), .take 29, none⟩]
def c_law11_light_l0b : ACode :=
  .seq (.seq (.region false [⟨(some 23), .mv (.tmp 4), none⟩,
      ⟨(some 24), .fa 2 (.tmp 1), none⟩,
      ⟨(some 25), .ldc (.tmp 24), none⟩,
      ⟨(some 26), .len .slice (.tmp 25), none⟩,
      ⟨(some 27), .bin .lss .prim (.tmp 23) (.tmp 26), none⟩])
   (.cond (.tmp 27) (.skip)
    (.exit 0)))
  (.seq (.block 1 (.seq (.region false [⟨(some 30), .fa 2 (.tmp 1), none⟩,
        ⟨(some 31), .ldc (.tmp 30), none⟩,
        ⟨(some 32), .mv (.tmp 4), none⟩,
        ⟨(some 33), .ia (.slice 13) (.tmp 31) (.tmp 32), none⟩,
        ⟨(some 34), .lda 13 (.tmp 33), none⟩,
        ⟨(some 35), .call (.const (.fn 22 [] [])) [(.inr (.tmp 34))], none⟩,
        ⟨(some 5), .take 35, none⟩])
     (.seq (.seq (.region false [⟨(some 6), .mv (.const (.int .i64 0)), none⟩])
       (.block 2 (c_law11_light_l1)))
      c_law11_light_j2)))
   c_law11_light_j3)
def c_law11_light_l0 : ACode := .loop c_law11_light_l0b
def c_law11_light_j4 : ACode :=
  .seq (.region false [⟨(some 66), .mv (.tmp 3), none⟩,
     ⟨(some 67), .bin .leq .prim (.tmp 66) (.const (.int .i64 120)), none⟩,
     ⟨(some 2), .take 67, none⟩])
  (.ret)
/-- simulator/simulatorlaw11.light -/
def c_law11_light : ACode :=
  .seq (.region false [⟨(some 1), .box 26 4 (.tmp 0), none⟩,
     ⟨(some 2), .mv (.const (.bool false)), none⟩])
  (.seq (.seq (.region false [⟨(some 7), .fa 2 (.tmp 1), none⟩,
       ⟨(some 8), .ldc (.tmp 7), none⟩,
       ⟨(some 9), .len .slice (.tmp 8), none⟩,
       ⟨(some 10), .bin .gtr .prim (.tmp 9) (.const (.int .i64 20)), none⟩,
       ⟨(some 11), .mv (.tmp 10), none⟩,
       ⟨(some 12), .fa 1 (.tmp 1), (some (11, false))⟩,
       ⟨(some 13), .ldc (.tmp 12), (some (11, false))⟩,
       ⟨(some 14), .len .slice (.tmp 13), (some (11, false))⟩,
       ⟨(some 15), .bin .gtr .prim (.tmp 14) (.const (.int .i64 40)), (some (11, false))⟩,
       ⟨(some 16), .pick (.tmp 11) (.const (.bool true)) (.tmp 15), none⟩,
       ⟨(some 17), .mv (.tmp 16), none⟩,
       ⟨(some 18), .fa 3 (.tmp 1), (some (17, false))⟩,
       ⟨(some 19), .ldc (.tmp 18), (some (17, false))⟩,
       ⟨(some 20), .len .slice (.tmp 19), (some (17, false))⟩,
       ⟨(some 21), .bin .gtr .prim (.tmp 20) (.const (.int .i64 40)), (some (17, false))⟩,
       ⟨(some 22), .pick (.tmp 17) (.const (.bool true)) (.tmp 21), none⟩])
    (.cond (.tmp 22) (.seq (.region false [⟨(some 2), .mv (.const (.bool false)), none⟩])
      (.ret))
     (.skip)))
   (.seq (.region false [⟨(some 3), .mv (.const (.int .i64 0)), none⟩])
    (.seq (.seq (.region false [⟨(some 4), .mv (.const (.int .i64 0)), none⟩])
      (.block 0 (c_law11_light_l0)))
     c_law11_light_j4)))
def a_law11_light : AFn := ⟨68, [.tmp 2], c_law11_light, false⟩
def p_law11_light : List Nat := [12, 13, 14, 15, 18, 19, 20, 21]
theorem t_law11_light : cFn Tryz.prog takes Tryz.f8 = some a_law11_light := by kernel_rfl
theorem n_law11_light : (Tryz.f8.name == "runtime.NumGoroutine") = false := by kernel_rfl
/-- simulator/model.Link -/
def c_model_Link : ACode :=
  .seq (.region false [⟨(some 3), .box 26 4 (.tmp 0), none⟩,
     ⟨(some 4), .box 9 1 (.tmp 1), none⟩,
     ⟨(some 5), .box 9 1 (.tmp 2), none⟩,
     ⟨(some 6), .mv (.const (.int .i64 0)), none⟩,
     ⟨(some 7), .mv (.const (.bool false)), none⟩])
  (.seq (.region false [⟨(some 9), .fa 3 (.tmp 3), none⟩,
      ⟨(some 10), .ldc (.tmp 9), none⟩,
      ⟨(some 11), .mkfn 41 [] [(.tmp 4), (.tmp 5)], none⟩,
      ⟨(some 12), .call (.const (.fn 40 [] [])) [(.inr (.tmp 10)), (.inr (.tmp 11))], none⟩,
      ⟨(some 8), .take 12, none⟩])
   (.seq (.seq (.region false [⟨(some 13), .mv (.tmp 8), none⟩,
        ⟨(some 14), .bin .lss .prim (.tmp 13) (.const (.int .i64 0)), none⟩])
     (.cond (.tmp 14) (.seq (.region false [⟨(some 6), .mv (.const (.int .i64 0)), none⟩,
          ⟨(some 7), .mv (.const (.bool false)), none⟩])
       (.ret))
      (.skip)))
    (.seq (.region false [⟨(some 15), .fa 3 (.tmp 3), none⟩,
        ⟨(some 16), .ldc (.tmp 15), none⟩,
        ⟨(some 17), .mv (.tmp 8), none⟩,
        ⟨(some 18), .ia (.slice 3) (.tmp 16) (.tmp 17), none⟩,
        ⟨(some 19), .fa 2 (.tmp 18), none⟩,
        ⟨(some 20), .ldc (.tmp 19), none⟩,
        ⟨(some 6), .take 20, none⟩,
        ⟨(some 7), .mv (.const (.bool true)), none⟩])
     (.ret))))
def a_model_Link : AFn := ⟨21, [.tmp 6, .tmp 7], c_model_Link, false⟩
def p_model_Link : List Nat := []
theorem t_model_Link : cFn Tryz.prog takes Tryz.f12 = some a_model_Link := by kernel_rfl
theorem n_model_Link : (Tryz.f12.name == "runtime.NumGoroutine") = false := by kernel_rfl
def c_r11_Link_l0b : ACode :=
  .seq (.seq (.region false [⟨(some 9), .mv (.tmp 8), none⟩,
      ⟨(some 10), .fa 3 (.tmp 3), none⟩,
      ⟨(some 11), .ldc (.tmp 10), none⟩,
      ⟨(some 12), .len .slice (.tmp 11), none⟩,
      ⟨(some 13), .bin .lss .prim (.tmp 9) (.tmp 12), none⟩])
   (.cond (.tmp 13) (.skip)
    (.exit 0)))
  (.seq (.block 1 (.seq (.region false [⟨(some 16), .fa 3 (.tmp 3), none⟩,
        ⟨(some 17), .ldc (.tmp 16), none⟩,
        ⟨(some 18), .mv (.tmp 8), none⟩,
        ⟨(some 19), .ia (.slice 3) (.tmp 17) (.tmp 18), none⟩,
        ⟨(some 20), .fa 0 (.tmp 19), none⟩,
        ⟨(some 21), .ldc (.tmp 20), none⟩,
        ⟨(some 22), .mv (.tmp 1), none⟩,
        ⟨(some 23), .bin .eql .prim (.tmp 21) (.tmp 22), none⟩,
        ⟨(some 24), .mv (.tmp 23), none⟩,
        ⟨(some 25), .fa 3 (.tmp 3), (some (24, true))⟩,
        ⟨(some 26), .ldc (.tmp 25), (some (24, true))⟩,
        ⟨(some 27), .mv (.tmp 8), (some (24, true))⟩,
        ⟨(some 28), .ia (.slice 3) (.tmp 26) (.tmp 27), (some (24, true))⟩,
        ⟨(some 29), .fa 1 (.tmp 28), (some (24, true))⟩,
        ⟨(some 30), .ldc (.tmp 29), (some (24, true))⟩,
        ⟨(some 31), .mv (.tmp 2), (some (24, true))⟩,
        ⟨(some 32), .bin .eql .prim (.tmp 30) (.tmp 31), (some (24, true))⟩,
        ⟨(some 33), .pick (.tmp 24) (.tmp 32) (.const (.bool false)), none⟩])
     (.cond (.tmp 33) (.seq (.region false [⟨(some 34), .fa 3 (.tmp 3), none⟩,
          ⟨(some 35), .ldc (.tmp 34), none⟩,
          ⟨(some 36), .mv (.tmp 8), none⟩,
          ⟨(some 37), .ia (.slice 3) (.tmp 35) (.tmp 36), none⟩,
          ⟨(some 38), .fa 2 (.tmp 37), none⟩,
          ⟨(some 39), .ldc (.tmp 38), none⟩,
          ⟨(some 6), .take 39, none⟩,
          ⟨(some 7), .mv (.const (.bool true)), none⟩])
       (.ret))
      (.skip))))
   (.region false [⟨(some 14), .mv (.tmp 8), none⟩,
      ⟨(some 15), .bin .add .prim (.tmp 14) (.const (.int .i64 1)), none⟩,
      ⟨(some 8), .take 15, none⟩]))
def c_r11_Link_l0 : ACode := .loop c_r11_Link_l0b
def c_r11_Link_j1 : ACode :=
  .seq (.region false [⟨(some 6), .mv (.const (.int .i64 0)), none⟩,
     ⟨(some 7), .mv (.const (.bool false)), none⟩])
  (.ret)
/-- simulator/simulatorref11.Link -/
def c_r11_Link : ACode :=
  .seq (.region false [⟨(some 3), .box 26 4 (.tmp 0), none⟩,
     ⟨(some 6), .mv (.const (.int .i64 0)), none⟩,
     ⟨(some 7), .mv (.const (.bool false)), none⟩])
  (.seq (.seq (.region false [⟨(some 8), .mv (.const (.int .i64 0)), none⟩])
    (.block 0 (c_r11_Link_l0)))
   c_r11_Link_j1)
def a_r11_Link : AFn := ⟨40, [.tmp 6, .tmp 7], c_r11_Link, false⟩
def p_r11_Link : List Nat := [25, 26, 27, 28, 29, 30, 31, 32]
theorem t_r11_Link : cFn Tryz.prog takes Tryz.f13 = some a_r11_Link := by kernel_rfl
theorem n_r11_Link : (Tryz.f13.name == "runtime.NumGoroutine") = false := by kernel_rfl
/-- simulator/model.Site -/
def c_model_Site : ACode :=
  .seq (.region false [⟨(some 2), .box 26 4 (.tmp 0), none⟩,
     ⟨(some 3), .box 9 1 (.tmp 1), none⟩,
     ⟨(some 4), .mv (.const (.int .i64 0)), none⟩])
  (.seq (.region false [⟨(some 5), .fa 2 (.tmp 2), none⟩,
      ⟨(some 6), .ldc (.tmp 5), none⟩,
      ⟨(some 7), .mkfn 43 [] [(.tmp 3)], none⟩,
      ⟨(some 8), .call (.const (.fn 42 [] [])) [(.inr (.tmp 6)), (.inr (.tmp 7))], none⟩,
      ⟨(some 4), .take 8, none⟩])
   (.ret))
def a_model_Site : AFn := ⟨9, [.tmp 4], c_model_Site, false⟩
def p_model_Site : List Nat := []
theorem t_model_Site : cFn Tryz.prog takes Tryz.f14 = some a_model_Site := by kernel_rfl
theorem n_model_Site : (Tryz.f14.name == "runtime.NumGoroutine") = false := by kernel_rfl
def c_r11_Site_l0b : ACode :=
  .seq (.seq (.region false [⟨(some 6), .mv (.tmp 5), none⟩,
      ⟨(some 7), .fa 2 (.tmp 2), none⟩,
      ⟨(some 8), .ldc (.tmp 7), none⟩,
      ⟨(some 9), .len .slice (.tmp 8), none⟩,
      ⟨(some 10), .bin .lss .prim (.tmp 6) (.tmp 9), none⟩])
   (.cond (.tmp 10) (.skip)
    (.exit 0)))
  (.seq (.block 1 (.seq (.region false [⟨(some 13), .fa 2 (.tmp 2), none⟩,
        ⟨(some 14), .ldc (.tmp 13), none⟩,
        ⟨(some 15), .mv (.tmp 5), none⟩,
        ⟨(some 16), .ia (.slice 13) (.tmp 14) (.tmp 15), none⟩,
        ⟨(some 17), .fa 0 (.tmp 16), none⟩,
        ⟨(some 18), .ldc (.tmp 17), none⟩,
        ⟨(some 19), .mv (.tmp 1), none⟩,
        ⟨(some 20), .bin .eql .prim (.tmp 18) (.tmp 19), none⟩])
     (.cond (.tmp 20) (.seq (.region false [⟨(some 21), .take 5, none⟩,
          ⟨(some 4), .take 21, none⟩])
       (.ret))
      (.skip))))
   (.region false [⟨(some 11), .mv (.tmp 5), none⟩,
      ⟨(some 12), .bin .add .prim (.tmp 11) (.const (.int .i64 1)), none⟩,
      ⟨(some 5), .take 12, none⟩]))
def c_r11_Site_l0 : ACode := .loop c_r11_Site_l0b
def c_r11_Site_j1 : ACode :=
  .seq (.region false [⟨(some 4), .mv (.const (.int .i64 (-1))), none⟩])
  (.ret)
/-- simulator/simulatorref11.Site -/
def c_r11_Site : ACode :=
  .seq (.region false [⟨(some 2), .box 26 4 (.tmp 0), none⟩,
     ⟨(some 4), .mv (.const (.int .i64 0)), none⟩])
  (.seq (.seq (.region false [⟨(some 5), .mv (.const (.int .i64 0)), none⟩])
    (.block 0 (c_r11_Site_l0)))
   c_r11_Site_j1)
def a_r11_Site : AFn := ⟨22, [.tmp 4], c_r11_Site, false⟩
def p_r11_Site : List Nat := []
theorem t_r11_Site : cFn Tryz.prog takes Tryz.f15 = some a_r11_Site := by kernel_rfl
theorem n_r11_Site : (Tryz.f15.name == "runtime.NumGoroutine") = false := by kernel_rfl
/-- simulator/model.Routine -/
def c_model_Routine : ACode :=
  .seq (.region false [⟨(some 2), .box 42 13 (.tmp 0), none⟩,
     ⟨(some 3), .box 9 1 (.tmp 1), none⟩,
     ⟨(some 4), .mv (.const (.int .i64 0)), none⟩])
  (.seq (.region false [⟨(some 5), .fa 10 (.tmp 2), none⟩,
      ⟨(some 6), .ldc (.tmp 5), none⟩,
      ⟨(some 7), .mkfn 45 [] [(.tmp 3)], none⟩,
      ⟨(some 8), .call (.const (.fn 44 [] [])) [(.inr (.tmp 6)), (.inr (.tmp 7))], none⟩,
      ⟨(some 4), .take 8, none⟩])
   (.ret))
def a_model_Routine : AFn := ⟨9, [.tmp 4], c_model_Routine, false⟩
def p_model_Routine : List Nat := []
theorem t_model_Routine : cFn Tryz.prog takes Tryz.f16 = some a_model_Routine := by kernel_rfl
theorem n_model_Routine : (Tryz.f16.name == "runtime.NumGoroutine") = false := by kernel_rfl
/-- simulator/simulatorref11.Routine -/
def c_r11_Routine : ACode :=
  .seq (.region false [⟨(some 2), .box 42 13 (.tmp 0), none⟩,
     ⟨(some 4), .mv (.const (.int .i64 0)), none⟩])
  (.seq (.region false [⟨(some 5), .lda 13 (.tmp 2), none⟩,
      ⟨(some 6), .call (.const (.fn 22 [] [])) [(.inr (.tmp 5))], none⟩,
      ⟨(some 7), .ia (.slice 1) (.tmp 6) (.const (.int .i64 9)), none⟩,
      ⟨(some 8), .ldc (.tmp 7), none⟩,
      ⟨(some 9), .mv (.tmp 1), none⟩,
      ⟨(some 10), .call (.const (.fn 46 [] [])) [(.inr (.tmp 8)), (.inr (.tmp 9))], none⟩,
      ⟨(some 4), .take 10, none⟩])
   (.ret))
def a_r11_Routine : AFn := ⟨11, [.tmp 4], c_r11_Routine, false⟩
def p_r11_Routine : List Nat := []
theorem t_r11_Routine : cFn Tryz.prog takes Tryz.f17 = some a_r11_Routine := by kernel_rfl
theorem n_r11_Routine : (Tryz.f17.name == "runtime.NumGoroutine") = false := by kernel_rfl
/-- simulator/model.Kind -/
def c_model_Kind : ACode :=
  .seq (.region false [⟨(some 2), .box 42 13 (.tmp 0), none⟩,
     ⟨(some 4), .mv (.const (.str [])), none⟩])
  (.seq (.region false [⟨(some 8), .lda 13 (.tmp 2), none⟩,
      ⟨(some 9), .mv (.tmp 1), none⟩,
      ⟨(some 10), .call (.const (.fn 47 [] [])) [(.inr (.tmp 8)), (.inr (.tmp 9))], none⟩,
      ⟨(some 7), .mv (.tmp 10), none⟩,
      ⟨(some 11), .extract (.tmp 7) 0, none⟩,
      ⟨(some 12), .extract (.tmp 7) 1, none⟩,
      ⟨(some 5), .take 11, none⟩,
      ⟨(some 6), .take 12, none⟩])
   (.seq (.region false [⟨(some 13), .take 5, none⟩,
       ⟨(some 4), .take 13, none⟩])
    (.ret)))
def a_model_Kind : AFn := ⟨14, [.tmp 4], c_model_Kind, false⟩
def p_model_Kind : List Nat := []
theorem t_model_Kind : cFn Tryz.prog takes Tryz.f18 = some a_model_Kind := by kernel_rfl
theorem n_model_Kind : (Tryz.f18.name == "runtime.NumGoroutine") = false := by kernel_rfl
def c_r11_Kind_l0b : ACode :=
  .seq (.seq (.region false [⟨(some 11), .mv (.tmp 7), none⟩,
      ⟨(some 12), .mv (.tmp 5), none⟩,
      ⟨(some 13), .len .slice (.tmp 12), none⟩,
      ⟨(some 14), .bin .lss .prim (.tmp 11) (.tmp 13), none⟩])
   (.cond (.tmp 14) (.skip)
    (.exit 0)))
  (.seq (.block 1 (.seq (.region false [⟨(some 17), .mv (.tmp 5), none⟩,
        ⟨(some 18), .mv (.tmp 7), none⟩,
        ⟨(some 19), .ia (.slice 1) (.tmp 17) (.tmp 18), none⟩,
        ⟨(some 20), .ldc (.tmp 19), none⟩,
        ⟨(some 21), .mv (.tmp 1), none⟩,
        ⟨(some 22), .call (.const (.fn 46 [] [])) [(.inr (.tmp 20)), (.inr (.tmp 21))], none⟩,
        ⟨(some 23), .bin .geq .prim (.tmp 22) (.const (.int .i64 0)), none⟩])
     (.cond (.tmp 23) (.seq (.region false [⟨(some 24), .mv (.tmp 6), none⟩,
          ⟨(some 25), .mv (.tmp 7), none⟩,
          ⟨(some 26), .ia (.slice 1) (.tmp 24) (.tmp 25), none⟩,
          ⟨(some 27), .ldc (.tmp 26), none⟩,
          ⟨(some 4), .take 27, none⟩])
       (.ret))
      (.skip))))
   (.region false [⟨(some 15), .mv (.tmp 7), none⟩,
      ⟨(some 16), .bin .add .prim (.tmp 15) (.const (.int .i64 1)), none⟩,
      ⟨(some 7), .take 16, none⟩]))
def c_r11_Kind_l0 : ACode := .loop c_r11_Kind_l0b
def c_r11_Kind_j1 : ACode :=
  .seq (.region false [⟨(some 4), .mv (.const (.str [])), none⟩])
  (.ret)
/-- simulator/simulatorref11.Kind -/
def c_r11_Kind : ACode :=
  .seq (.region false [⟨(some 2), .box 42 13 (.tmp 0), none⟩,
     ⟨(some 4), .mv (.const (.str [])), none⟩])
  (.seq (.region false [⟨(some 8), .lda 13 (.tmp 2), none⟩,
      ⟨(some 9), .call (.const (.fn 22 [] [])) [(.inr (.tmp 8))], none⟩,
      ⟨(some 5), .take 9, none⟩])
   (.seq (.region false [⟨(some 10), .lit 9 1 [(.const (.str [118, 97, 114])), (.const (.str [114, 101, 115, 111, 117, 114, 99, 101])), (.const (.str [115, 116, 111, 114, 101])), (.const (.str [98, 101, 108, 116])), (.const (.str [113, 117, 101, 117, 101])), (.const (.str [115, 116, 114, 101, 97, 109])), (.const (.str [116, 97, 108, 108, 121])), (.const (.str [108, 101, 118, 101, 108])), (.const (.str [99, 111, 117, 110, 116])), (.const (.str [114, 111, 117, 116, 105, 110, 101]))], none⟩,
       ⟨(some 6), .take 10, none⟩])
    (.seq (.seq (.region false [⟨(some 7), .mv (.const (.int .i64 0)), none⟩])
      (.block 0 (c_r11_Kind_l0)))
     c_r11_Kind_j1)))
def a_r11_Kind : AFn := ⟨28, [.tmp 4], c_r11_Kind, false⟩
def p_r11_Kind : List Nat := []
theorem t_r11_Kind : cFn Tryz.prog takes Tryz.f19 = some a_r11_Kind := by kernel_rfl
theorem n_r11_Kind : (Tryz.f19.name == "runtime.NumGoroutine") = false := by kernel_rfl
/-- simulator/model.Index -/
def c_model_Index : ACode :=
  .seq (.region false [⟨(some 2), .box 42 13 (.tmp 0), none⟩,
     ⟨(some 4), .mv (.const (.int .i64 0)), none⟩])
  (.seq (.region false [⟨(some 8), .lda 13 (.tmp 2), none⟩,
      ⟨(some 9), .mv (.tmp 1), none⟩,
      ⟨(some 10), .call (.const (.fn 47 [] [])) [(.inr (.tmp 8)), (.inr (.tmp 9))], none⟩,
      ⟨(some 7), .mv (.tmp 10), none⟩,
      ⟨(some 11), .extract (.tmp 7) 0, none⟩,
      ⟨(some 12), .extract (.tmp 7) 1, none⟩,
      ⟨(some 5), .take 11, none⟩,
      ⟨(some 6), .take 12, none⟩])
   (.seq (.region false [⟨(some 13), .take 6, none⟩,
       ⟨(some 4), .take 13, none⟩])
    (.ret)))
def a_model_Index : AFn := ⟨14, [.tmp 4], c_model_Index, false⟩
def p_model_Index : List Nat := []
theorem t_model_Index : cFn Tryz.prog takes Tryz.f20 = some a_model_Index := by kernel_rfl
theorem n_model_Index : (Tryz.f20.name == "runtime.NumGoroutine") = false := by kernel_rfl
def c_r11_Index_l0b : ACode :=
  .seq (.seq (.region false [⟨(some 10), .mv (.tmp 6), none⟩,
      ⟨(some 11), .mv (.tmp 5), none⟩,
      ⟨(some 12), .len .slice (.tmp 11), none⟩,
      ⟨(some 13), .bin .lss .prim (.tmp 10) (.tmp 12), none⟩])
   (.cond (.tmp 13) (.skip)
    (.exit 0)))
  (.seq (.block 1 (.seq (.region false [⟨(some 16), .mv (.tmp 5), none⟩,
        ⟨(some 17), .mv (.tmp 6), none⟩,
        ⟨(some 18), .ia (.slice 1) (.tmp 16) (.tmp 17), none⟩,
        ⟨(some 19), .ldc (.tmp 18), none⟩,
        ⟨(some 20), .mv (.tmp 1), none⟩,
        ⟨(some 21), .call (.const (.fn 46 [] [])) [(.inr (.tmp 19)), (.inr (.tmp 20))], none⟩,
        ⟨(some 7), .take 21, none⟩])
     (.seq (.region false [⟨(some 22), .mv (.tmp 7), none⟩,
         ⟨(some 23), .bin .geq .prim (.tmp 22) (.const (.int .i64 0)), none⟩])
      (.cond (.tmp 23) (.seq (.region false [⟨(some 24), .take 7, none⟩,
           ⟨(some 4), .take 24, none⟩])
        (.ret))
       (.skip)))))
   (.region false [⟨(some 14), .mv (.tmp 6), none⟩,
      ⟨(some 15), .bin .add .prim (.tmp 14) (.const (.int .i64 1)), none⟩,
      ⟨(some 6), .take 15, none⟩]))
def c_r11_Index_l0 : ACode := .loop c_r11_Index_l0b
def c_r11_Index_j1 : ACode :=
  .seq (.region false [⟨(some 4), .mv (.const (.int .i64 (-1))), none⟩])
  (.ret)
/-- simulator/simulatorref11.Index -/
def c_r11_Index : ACode :=
  .seq (.region false [⟨(some 2), .box 42 13 (.tmp 0), none⟩,
     ⟨(some 4), .mv (.const (.int .i64 0)), none⟩])
  (.seq (.region false [⟨(some 8), .lda 13 (.tmp 2), none⟩,
      ⟨(some 9), .call (.const (.fn 22 [] [])) [(.inr (.tmp 8))], none⟩,
      ⟨(some 5), .take 9, none⟩])
   (.seq (.seq (.region false [⟨(some 6), .mv (.const (.int .i64 0)), none⟩])
     (.block 0 (c_r11_Index_l0)))
    c_r11_Index_j1))
def a_r11_Index : AFn := ⟨25, [.tmp 4], c_r11_Index, false⟩
def p_r11_Index : List Nat := []
theorem t_r11_Index : cFn Tryz.prog takes Tryz.f21 = some a_r11_Index := by kernel_rfl
theorem n_r11_Index : (Tryz.f21.name == "runtime.NumGoroutine") = false := by kernel_rfl
def c_r11_Names_l0b : ACode :=
  .seq (.seq (.region false [⟨(some 10), .mv (.tmp 4), none⟩,
      ⟨(some 11), .fa 1 (.tmp 1), none⟩,
      ⟨(some 12), .ldc (.tmp 11), none⟩,
      ⟨(some 13), .len .slice (.tmp 12), none⟩,
      ⟨(some 14), .bin .lss .prim (.tmp 10) (.tmp 13), none⟩])
   (.cond (.tmp 14) (.skip)
    (.exit 0)))
  (.seq (.block 1 (.region true [⟨(some 17), .mv (.tmp 3), none⟩,
       ⟨(some 18), .mv (.tmp 3), none⟩,
       ⟨(some 19), .ia (.slice 1) (.tmp 18) (.const (.int .i64 0)), none⟩,
       ⟨(some 20), .ldt (.tmp 19), none⟩,
       ⟨(some 21), .fa 1 (.tmp 1), none⟩,
       ⟨(some 22), .ldc (.tmp 21), none⟩,
       ⟨(some 23), .mv (.tmp 4), none⟩,
       ⟨(some 24), .ia (.slice 3) (.tmp 22) (.tmp 23), none⟩,
       ⟨(some 25), .fa 0 (.tmp 24), none⟩,
       ⟨(some 26), .ldc (.tmp 25), none⟩,
       ⟨(some 27), .lit 9 1 [(.tmp 26)], none⟩,
       ⟨(some 28), .app 1 16 20 (.tmp 27), none⟩,
       ⟨(some 29), .ia (.slice 1) (.tmp 17) (.const (.int .i64 0)), none⟩,
       ⟨none, .stt (.tmp 29) 28, none⟩]))
   (.region false [⟨(some 15), .mv (.tmp 4), none⟩,
      ⟨(some 16), .bin .add .prim (.tmp 15) (.const (.int .i64 1)), none⟩,
      ⟨(some 4), .take 16, none⟩]))
def c_r11_Names_l0 : ACode := .loop c_r11_Names_l0b
def c_r11_Names_l2b : ACode :=
  .seq (.seq (.region false [⟨(some 30), .mv (.tmp 5), none⟩,
      ⟨(some 31), .fa 2 (.tmp 1), none⟩,
      ⟨(some 32), .ldc (.tmp 31), none⟩,
      ⟨(some 33), .len .slice (.tmp 32), none⟩,
      ⟨(some 34), .bin .lss .prim (.tmp 30) (.tmp 33), none⟩])
   (.cond (.tmp 34) (.skip)
    (.exit 2)))
  (.seq (.block 3 (.region true [⟨(some 37), .mv (.tmp 3), none⟩,
       ⟨(some 38), .mv (.tmp 3), none⟩,
       ⟨(some 39), .ia (.slice 1) (.tmp 38) (.const (.int .i64 1)), none⟩,
       ⟨(some 40), .ldt (.tmp 39), none⟩,
       ⟨(some 41), .fa 2 (.tmp 1), none⟩,
       ⟨(some 42), .ldc (.tmp 41), none⟩,
       ⟨(some 43), .mv (.tmp 5), none⟩,
       ⟨(some 44), .ia (.slice 17) (.tmp 42) (.tmp 43), none⟩,
       ⟨(some 45), .fa 0 (.tmp 44), none⟩,
       ⟨(some 46), .ldc (.tmp 45), none⟩,
       ⟨(some 47), .lit 9 1 [(.tmp 46)], none⟩,
       ⟨(some 48), .app 1 16 40 (.tmp 47), none⟩,
       ⟨(some 49), .ia (.slice 1) (.tmp 37) (.const (.int .i64 1)), none⟩,
       ⟨none, .stt (.tmp 49) 48, none⟩]))
   (.region false [⟨(some 35), .mv (.tmp 5), none⟩,
      ⟨(some 36), .bin .add .prim (.tmp 35) (.const (.int .i64 1)), none⟩,
      ⟨(some 5), .take 36, none⟩]))
def c_r11_Names_l2 : ACode := .loop c_r11_Names_l2b
def c_r11_Names_l4b : ACode :=
  .seq (.seq (.region false [⟨(some 50), .mv (.tmp 6), none⟩,
      ⟨(some 51), .fa 3 (.tmp 1), none⟩,
      ⟨(some 52), .ldc (.tmp 51), none⟩,
      ⟨(some 53), .len .slice (.tmp 52), none⟩,
      ⟨(some 54), .bin .lss .prim (.tmp 50) (.tmp 53), none⟩])
   (.cond (.tmp 54) (.skip)
    (.exit 4)))
  (.seq (.block 5 (.region true [⟨(some 57), .mv (.tmp 3), none⟩,
       ⟨(some 58), .mv (.tmp 3), none⟩,
       ⟨(some 59), .ia (.slice 1) (.tmp 58) (.const (.int .i64 2)), none⟩,
       ⟨(some 60), .ldt (.tmp 59), none⟩,
       ⟨(some 61), .fa 3 (.tmp 1), none⟩,
       ⟨(some 62), .ldc (.tmp 61), none⟩,
       ⟨(some 63), .mv (.tmp 6), none⟩,
       ⟨(some 64), .ia (.slice 3) (.tmp 62) (.tmp 63), none⟩,
       ⟨(some 65), .fa 0 (.tmp 64), none⟩,
       ⟨(some 66), .ldc (.tmp 65), none⟩,
       ⟨(some 67), .lit 9 1 [(.tmp 66)], none⟩,
       ⟨(some 68), .app 1 16 60 (.tmp 67), none⟩,
       ⟨(some 69), .ia (.slice 1) (.tmp 57) (.const (.int .i64 2)), none⟩,
       ⟨none, .stt (.tmp 69) 68, none⟩]))
   (.region false [⟨(some 55), .mv (.tmp 6), none⟩,
      ⟨(some 56), .bin .add .prim (.tmp 55) (.const (.int .i64 1)), none⟩,
      ⟨(some 6), .take 56, none⟩]))
def c_r11_Names_l4 : ACode := .loop c_r11_Names_l4b
def c_r11_Names_l6b : ACode :=
  .seq (.seq (.region false [⟨(some 70), .mv (.tmp 7), none⟩,
      ⟨(some 71), .fa 4 (.tmp 1), none⟩,
      ⟨(some 72), .ldc (.tmp 71), none⟩,
      ⟨(some 73), .len .slice (.tmp 72), none⟩,
      ⟨(some 74), .bin .lss .prim (.tmp 70) (.tmp 73), none⟩])
   (.cond (.tmp 74) (.skip)
    (.exit 6)))
  (.seq (.block 7 (.region true [⟨(some 77), .mv (.tmp 3), none⟩,
       ⟨(some 78), .mv (.tmp 3), none⟩,
       ⟨(some 79), .ia (.slice 1) (.tmp 78) (.const (.int .i64 3)), none⟩,
       ⟨(some 80), .ldt (.tmp 79), none⟩,
       ⟨(some 81), .fa 4 (.tmp 1), none⟩,
       ⟨(some 82), .ldc (.tmp 81), none⟩,
       ⟨(some 83), .mv (.tmp 7), none⟩,
       ⟨(some 84), .ia (.slice 3) (.tmp 82) (.tmp 83), none⟩,
       ⟨(some 85), .fa 0 (.tmp 84), none⟩,
       ⟨(some 86), .ldc (.tmp 85), none⟩,
       ⟨(some 87), .lit 9 1 [(.tmp 86)], none⟩,
       ⟨(some 88), .app 1 16 80 (.tmp 87), none⟩,
       ⟨(some 89), .ia (.slice 1) (.tmp 77) (.const (.int .i64 3)), none⟩,
       ⟨none, .stt (.tmp 89) 88, none⟩]))
   (.region false [⟨(some 75), .mv (.tmp 7), none⟩,
      ⟨(some 76), .bin .add .prim (.tmp 75) (.const (.int .i64 1)), none⟩,
      ⟨(some 7), .take 76, none⟩]))
def c_r11_Names_l6 : ACode := .loop c_r11_Names_l6b
def c_r11_Names_l8b : ACode :=
  .seq (.seq (.region false [⟨(some 110), .mv (.tmp 8), none⟩,
      ⟨(some 111), .fa 10 (.tmp 1), none⟩,
      ⟨(some 112), .ldc (.tmp 111), none⟩,
      ⟨(some 113), .len .slice (.tmp 112), none⟩,
      ⟨(some 114), .bin .lss .prim (.tmp 110) (.tmp 113), none⟩])
   (.cond (.tmp 114) (.skip)
    (.exit 8)))
  (.seq (.block 9 (.region true [⟨(some 117), .mv (.tmp 3), none⟩,
       ⟨(some 118), .mv (.tmp 3), none⟩,
       ⟨(some 119), .ia (.slice 1) (.tmp 118) (.const (.int .i64 9)), none⟩,
       ⟨(some 120), .ldt (.tmp 119), none⟩,
       ⟨(some 121), .fa 10 (.tmp 1), none⟩,
       ⟨(some 122), .ldc (.tmp 121), none⟩,
       ⟨(some 123), .mv (.tmp 8), none⟩,
       ⟨(some 124), .ia (.slice 4) (.tmp 122) (.tmp 123), none⟩,
       ⟨(some 125), .fa 0 (.tmp 124), none⟩,
       ⟨(some 126), .ldc (.tmp 125), none⟩,
       ⟨(some 127), .lit 9 1 [(.tmp 126)], none⟩,
       ⟨(some 128), .app 1 16 120 (.tmp 127), none⟩,
       ⟨(some 129), .ia (.slice 1) (.tmp 117) (.const (.int .i64 9)), none⟩,
       ⟨none, .stt (.tmp 129) 128, none⟩]))
   (.region false [⟨(some 115), .mv (.tmp 8), none⟩,
      ⟨(some 116), .bin .add .prim (.tmp 115) (.const (.int .i64 1)), none⟩,
      ⟨(some 8), .take 116, none⟩]))
def c_r11_Names_l8 : ACode := .loop c_r11_Names_l8b
def c_r11_Names_j9 : ACode :=
  .seq (.region false [⟨(some 130), .take 3, none⟩,
     ⟨(some 2), .take 130, none⟩])
  (.ret)
def c_r11_Names_j7 : ACode :=
  .seq (.region false [⟨(some 90), .mv (.tmp 3), none⟩,
     ⟨(some 91), .fa 5 (.tmp 1), none⟩,
     ⟨(some 92), .ldc (.tmp 91), none⟩,
     ⟨(some 93), .ia (.slice 1) (.tmp 90) (.const (.int .i64 4)), none⟩,
     ⟨none, .stt (.tmp 93) 92, none⟩])
  (.seq (.region false [⟨(some 94), .mv (.tmp 3), none⟩,
      ⟨(some 95), .fa 6 (.tmp 1), none⟩,
      ⟨(some 96), .ldc (.tmp 95), none⟩,
      ⟨(some 97), .ia (.slice 1) (.tmp 94) (.const (.int .i64 5)), none⟩,
      ⟨none, .stt (.tmp 97) 96, none⟩])
   (.seq (.region false [⟨(some 98), .mv (.tmp 3), none⟩,
       ⟨(some 99), .fa 7 (.tmp 1), none⟩,
       ⟨(some 100), .ldc (.tmp 99), none⟩,
       ⟨(some 101), .ia (.slice 1) (.tmp 98) (.const (.int .i64 6)), none⟩,
       ⟨none, .stt (.tmp 101) 100, none⟩])
    (.seq (.region false [⟨(some 102), .mv (.tmp 3), none⟩,
        ⟨(some 103), .fa 8 (.tmp 1), none⟩,
        ⟨(some 104), .ldc (.tmp 103), none⟩,
        ⟨(some 105), .ia (.slice 1) (.tmp 102) (.const (.int .i64 7)), none⟩,
        ⟨none, .stt (.tmp 105) 104, none⟩])
     (.seq (.region false [⟨(some 106), .mv (.tmp 3), none⟩,
         ⟨(some 107), .fa 9 (.tmp 1), none⟩,
         ⟨(some 108), .ldc (.tmp 107), none⟩,
         ⟨(some 109), .ia (.slice 1) (.tmp 106) (.const (.int .i64 8)), none⟩,
         ⟨none, .stt (.tmp 109) 108, none⟩])
      (.seq (.seq (.region false [⟨(some 8), .mv (.const (.int .i64 0)), none⟩])
        (.block 8 (c_r11_Names_l8)))
       c_r11_Names_j9)))))
def c_r11_Names_j5 : ACode :=
  .seq (.seq (.region false [⟨(some 7), .mv (.const (.int .i64 0)), none⟩])
   (.block 6 (c_r11_Names_l6)))
  c_r11_Names_j7
def c_r11_Names_j3 : ACode :=
  .seq (.seq (.region false [⟨(some 6), .mv (.const (.int .i64 0)), none⟩])
   (.block 4 (c_r11_Names_l4)))
  c_r11_Names_j5
def c_r11_Names_j1 : ACode :=
  .seq (.seq (.region false [⟨(some 5), .mv (.const (.int .i64 0)), none⟩])
   (.block 2 (c_r11_Names_l2)))
  c_r11_Names_j3
/-- simulator/simulatorref11.Names -/
def c_r11_Names : ACode :=
  .seq (.region false [⟨(some 1), .box 42 13 (.tmp 0), none⟩,
     ⟨(some 2), .mv (.const (.own 1 [])), none⟩])
  (.seq (.region false [⟨(some 9), .mksl 37 [(.own 1 [])] (.const (.int .i64 10)), none⟩,
      ⟨(some 3), .take 9, none⟩])
   (.seq (.seq (.region false [⟨(some 4), .mv (.const (.int .i64 0)), none⟩])
     (.block 0 (c_r11_Names_l0)))
    c_r11_Names_j1))
def a_r11_Names : AFn := ⟨131, [.tmp 2], c_r11_Names, false⟩
def p_r11_Names : List Nat := []
theorem t_r11_Names : cFn Tryz.prog takes Tryz.f22 = some a_r11_Names := by kernel_rfl
theorem n_r11_Names : (Tryz.f22.name == "runtime.NumGoroutine") = false := by kernel_rfl
/-- simulator/model.Link$1 -/
def c_model_Link_1 : ACode :=
  .seq (.region false [⟨(some 3), .box 49 3 (.tmp 0), none⟩,
     ⟨(some 4), .mv (.const (.bool false)), none⟩])
  (.seq (.region false [⟨(some 5), .fa 0 (.tmp 3), none⟩,
      ⟨(some 6), .ldc (.tmp 5), none⟩,
      ⟨(some 7), .ldc (.tmp 1), none⟩,
      ⟨(some 8), .bin .eql .prim (.tmp 6) (.tmp 7), none⟩,
      ⟨(some 9), .mv (.tmp 8), none⟩,
      ⟨(some 10), .fa 1 (.tmp 3), (some (9, true))⟩,
      ⟨(some 11), .ldc (.tmp 10), (some (9, true))⟩,
      ⟨(some 12), .ldc (.tmp 2), (some (9, true))⟩,
      ⟨(some 13), .bin .eql .prim (.tmp 11) (.tmp 12), (some (9, true))⟩,
      ⟨(some 14), .pick (.tmp 9) (.tmp 13) (.const (.bool false)), none⟩,
      ⟨(some 4), .take 14, none⟩])
   (.ret))
def a_model_Link_1 : AFn := ⟨15, [.tmp 4], c_model_Link_1, false⟩
def p_model_Link_1 : List Nat := [10, 11, 12, 13]
theorem t_model_Link_1 : cFn Tryz.prog takes Tryz.f41 = some a_model_Link_1 := by kernel_rfl
theorem n_model_Link_1 : (Tryz.f41.name == "runtime.NumGoroutine") = false := by kernel_rfl
def c_slices_IndexFunc_Lapi_Link_api_Link__l0b : ACode :=
  .seq (.region false [⟨(some 9), .bin .lss .prim (.tmp 8) (.tmp 7), none⟩])
  (.seq (.cond (.tmp 9) (.skip)
    (.exit 0))
   (.seq (.block 1 (.seq (.region false [⟨(some 10), .mv (.tmp 8), none⟩,
         ⟨(some 5), .take 10, none⟩])
      (.seq (.region false [⟨(some 11), .mv (.tmp 1), none⟩,
          ⟨(some 12), .mv (.tmp 0), none⟩,
          ⟨(some 13), .mv (.tmp 5), none⟩,
          ⟨(some 14), .ia (.slice 3) (.tmp 12) (.tmp 13), none⟩,
          ⟨(some 15), .lda 3 (.tmp 14), none⟩,
          ⟨(some 16), .call (.tmp 11) [(.inr (.tmp 15))], none⟩])
       (.cond (.tmp 16) (.seq (.region false [⟨(some 17), .take 5, none⟩,
            ⟨(some 4), .take 17, none⟩])
         (.ret))
        (.skip)))))
    (.region false [⟨(some 18), .bin .add .prim (.tmp 8) (.const (.int .i64 1)), none⟩,
       ⟨(some 8), .mv (.tmp 18), none⟩])))
def c_slices_IndexFunc_Lapi_Link_api_Link__l0 : ACode := .loop c_slices_IndexFunc_Lapi_Link_api_Link__l0b
def c_slices_IndexFunc_Lapi_Link_api_Link__j1 : ACode :=
  .seq (.region false [⟨(some 4), .mv (.const (.int .i64 (-1))), none⟩])
  (.ret)
/-- slices.IndexFunc[[]simulator/api.Link,simulator/api.Link] -/
def c_slices_IndexFunc_Lapi_Link_api_Link_ : ACode :=
  .seq (.region false [⟨(some 4), .mv (.const (.int .i64 0)), none⟩])
  (.seq (.seq (.region false [⟨(some 6), .mv (.tmp 0), none⟩,
       ⟨(some 7), .len .slice (.tmp 6), none⟩,
       ⟨(some 8), .mv (.const (.int .i64 0)), none⟩])
    (.block 0 (c_slices_IndexFunc_Lapi_Link_api_Link__l0)))
   c_slices_IndexFunc_Lapi_Link_api_Link__j1)
def a_slices_IndexFunc_Lapi_Link_api_Link_ : AFn := ⟨19, [.tmp 4], c_slices_IndexFunc_Lapi_Link_api_Link_, false⟩
def p_slices_IndexFunc_Lapi_Link_api_Link_ : List Nat := []
theorem t_slices_IndexFunc_Lapi_Link_api_Link_ : cFn Tryz.prog takes Tryz.f40 = some a_slices_IndexFunc_Lapi_Link_api_Link_ := by kernel_rfl
theorem n_slices_IndexFunc_Lapi_Link_api_Link_ : (Tryz.f40.name == "runtime.NumGoroutine") = false := by kernel_rfl
/-- simulator/model.Site$1 -/
def c_model_Site_1 : ACode :=
  .seq (.region false [⟨(some 2), .box 42 13 (.tmp 0), none⟩,
     ⟨(some 3), .mv (.const (.bool false)), none⟩])
  (.seq (.region false [⟨(some 4), .fa 0 (.tmp 2), none⟩,
      ⟨(some 5), .ldc (.tmp 4), none⟩,
      ⟨(some 6), .ldc (.tmp 1), none⟩,
      ⟨(some 7), .bin .eql .prim (.tmp 5) (.tmp 6), none⟩,
      ⟨(some 3), .take 7, none⟩])
   (.ret))
def a_model_Site_1 : AFn := ⟨8, [.tmp 3], c_model_Site_1, false⟩
def p_model_Site_1 : List Nat := []
theorem t_model_Site_1 : cFn Tryz.prog takes Tryz.f43 = some a_model_Site_1 := by kernel_rfl
theorem n_model_Site_1 : (Tryz.f43.name == "runtime.NumGoroutine") = false := by kernel_rfl
def c_slices_IndexFunc_Lapi_SiteDecl_api_SiteDecl__l0b : ACode :=
  .seq (.region false [⟨(some 9), .bin .lss .prim (.tmp 8) (.tmp 7), none⟩])
  (.seq (.cond (.tmp 9) (.skip)
    (.exit 0))
   (.seq (.block 1 (.seq (.region false [⟨(some 10), .mv (.tmp 8), none⟩,
         ⟨(some 5), .take 10, none⟩])
      (.seq (.region false [⟨(some 11), .mv (.tmp 1), none⟩,
          ⟨(some 12), .mv (.tmp 0), none⟩,
          ⟨(some 13), .mv (.tmp 5), none⟩,
          ⟨(some 14), .ia (.slice 13) (.tmp 12) (.tmp 13), none⟩,
          ⟨(some 15), .lda 13 (.tmp 14), none⟩,
          ⟨(some 16), .call (.tmp 11) [(.inr (.tmp 15))], none⟩])
       (.cond (.tmp 16) (.seq (.region false [⟨(some 17), .take 5, none⟩,
            ⟨(some 4), .take 17, none⟩])
         (.ret))
        (.skip)))))
    (.region false [⟨(some 18), .bin .add .prim (.tmp 8) (.const (.int .i64 1)), none⟩,
       ⟨(some 8), .mv (.tmp 18), none⟩])))
def c_slices_IndexFunc_Lapi_SiteDecl_api_SiteDecl__l0 : ACode := .loop c_slices_IndexFunc_Lapi_SiteDecl_api_SiteDecl__l0b
def c_slices_IndexFunc_Lapi_SiteDecl_api_SiteDecl__j1 : ACode :=
  .seq (.region false [⟨(some 4), .mv (.const (.int .i64 (-1))), none⟩])
  (.ret)
/-- slices.IndexFunc[[]simulator/api.SiteDecl,simulator/api.SiteDecl] -/
def c_slices_IndexFunc_Lapi_SiteDecl_api_SiteDecl_ : ACode :=
  .seq (.region false [⟨(some 4), .mv (.const (.int .i64 0)), none⟩])
  (.seq (.seq (.region false [⟨(some 6), .mv (.tmp 0), none⟩,
       ⟨(some 7), .len .slice (.tmp 6), none⟩,
       ⟨(some 8), .mv (.const (.int .i64 0)), none⟩])
    (.block 0 (c_slices_IndexFunc_Lapi_SiteDecl_api_SiteDecl__l0)))
   c_slices_IndexFunc_Lapi_SiteDecl_api_SiteDecl__j1)
def a_slices_IndexFunc_Lapi_SiteDecl_api_SiteDecl_ : AFn := ⟨19, [.tmp 4], c_slices_IndexFunc_Lapi_SiteDecl_api_SiteDecl_, false⟩
def p_slices_IndexFunc_Lapi_SiteDecl_api_SiteDecl_ : List Nat := []
theorem t_slices_IndexFunc_Lapi_SiteDecl_api_SiteDecl_ : cFn Tryz.prog takes Tryz.f42 = some a_slices_IndexFunc_Lapi_SiteDecl_api_SiteDecl_ := by kernel_rfl
theorem n_slices_IndexFunc_Lapi_SiteDecl_api_SiteDecl_ : (Tryz.f42.name == "runtime.NumGoroutine") = false := by kernel_rfl
/-- simulator/model.Routine$1 -/
def c_model_Routine_1 : ACode :=
  .seq (.region false [⟨(some 2), .box 79 4 (.tmp 0), none⟩,
     ⟨(some 3), .mv (.const (.bool false)), none⟩])
  (.seq (.region false [⟨(some 4), .fa 0 (.tmp 2), none⟩,
      ⟨(some 5), .ldc (.tmp 4), none⟩,
      ⟨(some 6), .ldc (.tmp 1), none⟩,
      ⟨(some 7), .bin .eql .prim (.tmp 5) (.tmp 6), none⟩,
      ⟨(some 3), .take 7, none⟩])
   (.ret))
def a_model_Routine_1 : AFn := ⟨8, [.tmp 3], c_model_Routine_1, false⟩
def p_model_Routine_1 : List Nat := []
theorem t_model_Routine_1 : cFn Tryz.prog takes Tryz.f45 = some a_model_Routine_1 := by kernel_rfl
theorem n_model_Routine_1 : (Tryz.f45.name == "runtime.NumGoroutine") = false := by kernel_rfl
def c_slices_IndexFunc_Lapi_Routine_api_Routine__l0b : ACode :=
  .seq (.region false [⟨(some 9), .bin .lss .prim (.tmp 8) (.tmp 7), none⟩])
  (.seq (.cond (.tmp 9) (.skip)
    (.exit 0))
   (.seq (.block 1 (.seq (.region false [⟨(some 10), .mv (.tmp 8), none⟩,
         ⟨(some 5), .take 10, none⟩])
      (.seq (.region false [⟨(some 11), .mv (.tmp 1), none⟩,
          ⟨(some 12), .mv (.tmp 0), none⟩,
          ⟨(some 13), .mv (.tmp 5), none⟩,
          ⟨(some 14), .ia (.slice 4) (.tmp 12) (.tmp 13), none⟩,
          ⟨(some 15), .lda 4 (.tmp 14), none⟩,
          ⟨(some 16), .call (.tmp 11) [(.inr (.tmp 15))], none⟩])
       (.cond (.tmp 16) (.seq (.region false [⟨(some 17), .take 5, none⟩,
            ⟨(some 4), .take 17, none⟩])
         (.ret))
        (.skip)))))
    (.region false [⟨(some 18), .bin .add .prim (.tmp 8) (.const (.int .i64 1)), none⟩,
       ⟨(some 8), .mv (.tmp 18), none⟩])))
def c_slices_IndexFunc_Lapi_Routine_api_Routine__l0 : ACode := .loop c_slices_IndexFunc_Lapi_Routine_api_Routine__l0b
def c_slices_IndexFunc_Lapi_Routine_api_Routine__j1 : ACode :=
  .seq (.region false [⟨(some 4), .mv (.const (.int .i64 (-1))), none⟩])
  (.ret)
/-- slices.IndexFunc[[]simulator/api.Routine,simulator/api.Routine] -/
def c_slices_IndexFunc_Lapi_Routine_api_Routine_ : ACode :=
  .seq (.region false [⟨(some 4), .mv (.const (.int .i64 0)), none⟩])
  (.seq (.seq (.region false [⟨(some 6), .mv (.tmp 0), none⟩,
       ⟨(some 7), .len .slice (.tmp 6), none⟩,
       ⟨(some 8), .mv (.const (.int .i64 0)), none⟩])
    (.block 0 (c_slices_IndexFunc_Lapi_Routine_api_Routine__l0)))
   c_slices_IndexFunc_Lapi_Routine_api_Routine__j1)
def a_slices_IndexFunc_Lapi_Routine_api_Routine_ : AFn := ⟨19, [.tmp 4], c_slices_IndexFunc_Lapi_Routine_api_Routine_, false⟩
def p_slices_IndexFunc_Lapi_Routine_api_Routine_ : List Nat := []
theorem t_slices_IndexFunc_Lapi_Routine_api_Routine_ : cFn Tryz.prog takes Tryz.f44 = some a_slices_IndexFunc_Lapi_Routine_api_Routine_ := by kernel_rfl
theorem n_slices_IndexFunc_Lapi_Routine_api_Routine_ : (Tryz.f44.name == "runtime.NumGoroutine") = false := by kernel_rfl
def c_r07_Find_l0b : ACode :=
  .seq (.seq (.region false [⟨(some 6), .mv (.tmp 5), none⟩,
      ⟨(some 7), .mv (.tmp 0), none⟩,
      ⟨(some 8), .len .slice (.tmp 7), none⟩,
      ⟨(some 9), .bin .lss .prim (.tmp 6) (.tmp 8), none⟩])
   (.cond (.tmp 9) (.skip)
    (.exit 0)))
  (.seq (.block 1 (.seq (.region false [⟨(some 12), .mv (.tmp 0), none⟩,
        ⟨(some 13), .mv (.tmp 5), none⟩,
        ⟨(some 14), .ia (.slice 1) (.tmp 12) (.tmp 13), none⟩,
        ⟨(some 15), .ldc (.tmp 14), none⟩,
        ⟨(some 16), .mv (.tmp 1), none⟩,
        ⟨(some 17), .bin .eql .prim (.tmp 15) (.tmp 16), none⟩])
     (.cond (.tmp 17) (.seq (.region false [⟨(some 18), .take 5, none⟩,
          ⟨(some 4), .take 18, none⟩])
       (.ret))
      (.skip))))
   (.region false [⟨(some 10), .mv (.tmp 5), none⟩,
      ⟨(some 11), .bin .add .prim (.tmp 10) (.const (.int .i64 1)), none⟩,
      ⟨(some 5), .take 11, none⟩]))
def c_r07_Find_l0 : ACode := .loop c_r07_Find_l0b
def c_r07_Find_j1 : ACode :=
  .seq (.region false [⟨(some 4), .mv (.const (.int .i64 (-1))), none⟩])
  (.ret)
/-- simulator/simulatorref07.Find -/
def c_r07_Find : ACode :=
  .seq (.region false [⟨(some 4), .mv (.const (.int .i64 0)), none⟩])
  (.seq (.seq (.region false [⟨(some 5), .mv (.const (.int .i64 0)), none⟩])
    (.block 0 (c_r07_Find_l0)))
   c_r07_Find_j1)
def a_r07_Find : AFn := ⟨19, [.tmp 4], c_r07_Find, false⟩
def p_r07_Find : List Nat := []
theorem t_r07_Find : cFn Tryz.prog takes Tryz.f46 = some a_r07_Find := by kernel_rfl
theorem n_r07_Find : (Tryz.f46.name == "runtime.NumGoroutine") = false := by kernel_rfl
/-- simulator/model.place -/
def c_model_place : ACode :=
  .seq (.region false [⟨(some 2), .box 42 13 (.tmp 0), none⟩,
     ⟨(some 3), .box 9 1 (.tmp 1), none⟩,
     ⟨(some 4), .mv (.const (.str [])), none⟩,
     ⟨(some 5), .mv (.const (.int .i64 0)), none⟩])
  (.seq (.seq (.region false [⟨(some 16), .fa 1 (.tmp 2), none⟩,
       ⟨(some 17), .ldc (.tmp 16), none⟩,
       ⟨(some 18), .mkfn 100 [] [(.tmp 3)], none⟩,
       ⟨(some 19), .call (.const (.fn 99 [] [])) [(.inr (.tmp 17)), (.inr (.tmp 18))], none⟩,
       ⟨(some 6), .take 19, none⟩])
    (.seq (.region false [⟨(some 20), .mv (.tmp 6), none⟩,
        ⟨(some 21), .bin .geq .prim (.tmp 20) (.const (.int .i64 0)), none⟩])
     (.cond (.tmp 21) (.seq (.region false [⟨(some 22), .take 6, none⟩,
          ⟨(some 4), .mv (.const (.str [118, 97, 114])), none⟩,
          ⟨(some 5), .take 22, none⟩])
       (.ret))
      (.skip))))
   (.seq (.seq (.region false [⟨(some 23), .fa 2 (.tmp 2), none⟩,
        ⟨(some 24), .ldc (.tmp 23), none⟩,
        ⟨(some 25), .mkfn 102 [] [(.tmp 3)], none⟩,
        ⟨(some 26), .call (.const (.fn 101 [] [])) [(.inr (.tmp 24)), (.inr (.tmp 25))], none⟩,
        ⟨(some 7), .take 26, none⟩])
     (.seq (.region false [⟨(some 27), .mv (.tmp 7), none⟩,
         ⟨(some 28), .bin .geq .prim (.tmp 27) (.const (.int .i64 0)), none⟩])
      (.cond (.tmp 28) (.seq (.region false [⟨(some 29), .take 7, none⟩,
           ⟨(some 4), .mv (.const (.str [114, 101, 115, 111, 117, 114, 99, 101])), none⟩,
           ⟨(some 5), .take 29, none⟩])
        (.ret))
       (.skip))))
    (.seq (.seq (.region false [⟨(some 30), .fa 3 (.tmp 2), none⟩,
         ⟨(some 31), .ldc (.tmp 30), none⟩,
         ⟨(some 32), .mkfn 104 [] [(.tmp 3)], none⟩,
         ⟨(some 33), .call (.const (.fn 103 [] [])) [(.inr (.tmp 31)), (.inr (.tmp 32))], none⟩,
         ⟨(some 8), .take 33, none⟩])
      (.seq (.region false [⟨(some 34), .mv (.tmp 8), none⟩,
          ⟨(some 35), .bin .geq .prim (.tmp 34) (.const (.int .i64 0)), none⟩])
       (.cond (.tmp 35) (.seq (.region false [⟨(some 36), .take 8, none⟩,
            ⟨(some 4), .mv (.const (.str [115, 116, 111, 114, 101])), none⟩,
            ⟨(some 5), .take 36, none⟩])
         (.ret))
        (.skip))))
     (.seq (.seq (.region false [⟨(some 37), .fa 4 (.tmp 2), none⟩,
          ⟨(some 38), .ldc (.tmp 37), none⟩,
          ⟨(some 39), .mkfn 106 [] [(.tmp 3)], none⟩,
          ⟨(some 40), .call (.const (.fn 105 [] [])) [(.inr (.tmp 38)), (.inr (.tmp 39))], none⟩,
          ⟨(some 9), .take 40, none⟩])
       (.seq (.region false [⟨(some 41), .mv (.tmp 9), none⟩,
           ⟨(some 42), .bin .geq .prim (.tmp 41) (.const (.int .i64 0)), none⟩])
        (.cond (.tmp 42) (.seq (.region false [⟨(some 43), .take 9, none⟩,
             ⟨(some 4), .mv (.const (.str [98, 101, 108, 116])), none⟩,
             ⟨(some 5), .take 43, none⟩])
          (.ret))
         (.skip))))
      (.seq (.seq (.region false [⟨(some 44), .fa 5 (.tmp 2), none⟩,
           ⟨(some 45), .ldc (.tmp 44), none⟩,
           ⟨(some 46), .ldc (.tmp 3), none⟩,
           ⟨(some 47), .call (.const (.fn 107 [] [])) [(.inr (.tmp 45)), (.inr (.tmp 46))], none⟩,
           ⟨(some 10), .take 47, none⟩])
        (.seq (.region false [⟨(some 48), .mv (.tmp 10), none⟩,
            ⟨(some 49), .bin .geq .prim (.tmp 48) (.const (.int .i64 0)), none⟩])
         (.cond (.tmp 49) (.seq (.region false [⟨(some 50), .take 10, none⟩,
              ⟨(some 4), .mv (.const (.str [113, 117, 101, 117, 101])), none⟩,
              ⟨(some 5), .take 50, none⟩])
           (.ret))
          (.skip))))
       (.seq (.seq (.region false [⟨(some 51), .fa 6 (.tmp 2), none⟩,
            ⟨(some 52), .ldc (.tmp 51), none⟩,
            ⟨(some 53), .ldc (.tmp 3), none⟩,
            ⟨(some 54), .call (.const (.fn 107 [] [])) [(.inr (.tmp 52)), (.inr (.tmp 53))], none⟩,
            ⟨(some 11), .take 54, none⟩])
         (.seq (.region false [⟨(some 55), .mv (.tmp 11), none⟩,
             ⟨(some 56), .bin .geq .prim (.tmp 55) (.const (.int .i64 0)), none⟩])
          (.cond (.tmp 56) (.seq (.region false [⟨(some 57), .take 11, none⟩,
               ⟨(some 4), .mv (.const (.str [115, 116, 114, 101, 97, 109])), none⟩,
               ⟨(some 5), .take 57, none⟩])
            (.ret))
           (.skip))))
        (.seq (.seq (.region false [⟨(some 58), .fa 7 (.tmp 2), none⟩,
             ⟨(some 59), .ldc (.tmp 58), none⟩,
             ⟨(some 60), .ldc (.tmp 3), none⟩,
             ⟨(some 61), .call (.const (.fn 107 [] [])) [(.inr (.tmp 59)), (.inr (.tmp 60))], none⟩,
             ⟨(some 12), .take 61, none⟩])
          (.seq (.region false [⟨(some 62), .mv (.tmp 12), none⟩,
              ⟨(some 63), .bin .geq .prim (.tmp 62) (.const (.int .i64 0)), none⟩])
           (.cond (.tmp 63) (.seq (.region false [⟨(some 64), .take 12, none⟩,
                ⟨(some 4), .mv (.const (.str [116, 97, 108, 108, 121])), none⟩,
                ⟨(some 5), .take 64, none⟩])
             (.ret))
            (.skip))))
         (.seq (.seq (.region false [⟨(some 65), .fa 8 (.tmp 2), none⟩,
              ⟨(some 66), .ldc (.tmp 65), none⟩,
              ⟨(some 67), .ldc (.tmp 3), none⟩,
              ⟨(some 68), .call (.const (.fn 107 [] [])) [(.inr (.tmp 66)), (.inr (.tmp 67))], none⟩,
              ⟨(some 13), .take 68, none⟩])
           (.seq (.region false [⟨(some 69), .mv (.tmp 13), none⟩,
               ⟨(some 70), .bin .geq .prim (.tmp 69) (.const (.int .i64 0)), none⟩])
            (.cond (.tmp 70) (.seq (.region false [⟨(some 71), .take 13, none⟩,
                 ⟨(some 4), .mv (.const (.str [108, 101, 118, 101, 108])), none⟩,
                 ⟨(some 5), .take 71, none⟩])
              (.ret))
             (.skip))))
          (.seq (.seq (.region false [⟨(some 72), .fa 9 (.tmp 2), none⟩,
               ⟨(some 73), .ldc (.tmp 72), none⟩,
               ⟨(some 74), .ldc (.tmp 3), none⟩,
               ⟨(some 75), .call (.const (.fn 107 [] [])) [(.inr (.tmp 73)), (.inr (.tmp 74))], none⟩,
               ⟨(some 14), .take 75, none⟩])
            (.seq (.region false [⟨(some 76), .mv (.tmp 14), none⟩,
                ⟨(some 77), .bin .geq .prim (.tmp 76) (.const (.int .i64 0)), none⟩])
             (.cond (.tmp 77) (.seq (.region false [⟨(some 78), .take 14, none⟩,
                  ⟨(some 4), .mv (.const (.str [99, 111, 117, 110, 116])), none⟩,
                  ⟨(some 5), .take 78, none⟩])
               (.ret))
              (.skip))))
           (.seq (.seq (.region false [⟨(some 79), .lda 13 (.tmp 2), none⟩,
                ⟨(some 80), .ldc (.tmp 3), none⟩,
                ⟨(some 81), .call (.const (.fn 16 [] [])) [(.inr (.tmp 79)), (.inr (.tmp 80))], none⟩,
                ⟨(some 15), .take 81, none⟩])
             (.seq (.region false [⟨(some 82), .mv (.tmp 15), none⟩,
                 ⟨(some 83), .bin .geq .prim (.tmp 82) (.const (.int .i64 0)), none⟩])
              (.cond (.tmp 83) (.seq (.region false [⟨(some 84), .take 15, none⟩,
                   ⟨(some 4), .mv (.const (.str [114, 111, 117, 116, 105, 110, 101])), none⟩,
                   ⟨(some 5), .take 84, none⟩])
                (.ret))
               (.skip))))
            (.seq (.region false [⟨(some 4), .mv (.const (.str [])), none⟩,
                ⟨(some 5), .mv (.const (.int .i64 (-1))), none⟩])
             (.ret))))))))))))
def a_model_place : AFn := ⟨85, [.tmp 4, .tmp 5], c_model_place, false⟩
def p_model_place : List Nat := []
theorem t_model_place : cFn Tryz.prog takes Tryz.f47 = some a_model_place := by kernel_rfl
theorem n_model_place : (Tryz.f47.name == "runtime.NumGoroutine") = false := by kernel_rfl
/-- simulator/model.place$1 -/
def c_model_place_1 : ACode :=
  .seq (.region false [⟨(some 2), .box 69 3 (.tmp 0), none⟩,
     ⟨(some 3), .mv (.const (.bool false)), none⟩])
  (.seq (.region false [⟨(some 4), .fa 0 (.tmp 2), none⟩,
      ⟨(some 5), .ldc (.tmp 4), none⟩,
      ⟨(some 6), .ldc (.tmp 1), none⟩,
      ⟨(some 7), .bin .eql .prim (.tmp 5) (.tmp 6), none⟩,
      ⟨(some 3), .take 7, none⟩])
   (.ret))
def a_model_place_1 : AFn := ⟨8, [.tmp 3], c_model_place_1, false⟩
def p_model_place_1 : List Nat := []
theorem t_model_place_1 : cFn Tryz.prog takes Tryz.f100 = some a_model_place_1 := by kernel_rfl
theorem n_model_place_1 : (Tryz.f100.name == "runtime.NumGoroutine") = false := by kernel_rfl
def c_slices_IndexFunc_Lapi_Value_api_Value__l0b : ACode :=
  .seq (.region false [⟨(some 9), .bin .lss .prim (.tmp 8) (.tmp 7), none⟩])
  (.seq (.cond (.tmp 9) (.skip)
    (.exit 0))
   (.seq (.block 1 (.seq (.region false [⟨(some 10), .mv (.tmp 8), none⟩,
         ⟨(some 5), .take 10, none⟩])
      (.seq (.region false [⟨(some 11), .mv (.tmp 1), none⟩,
          ⟨(some 12), .mv (.tmp 0), none⟩,
          ⟨(some 13), .mv (.tmp 5), none⟩,
          ⟨(some 14), .ia (.slice 3) (.tmp 12) (.tmp 13), none⟩,
          ⟨(some 15), .lda 3 (.tmp 14), none⟩,
          ⟨(some 16), .call (.tmp 11) [(.inr (.tmp 15))], none⟩])
       (.cond (.tmp 16) (.seq (.region false [⟨(some 17), .take 5, none⟩,
            ⟨(some 4), .take 17, none⟩])
         (.ret))
        (.skip)))))
    (.region false [⟨(some 18), .bin .add .prim (.tmp 8) (.const (.int .i64 1)), none⟩,
       ⟨(some 8), .mv (.tmp 18), none⟩])))
def c_slices_IndexFunc_Lapi_Value_api_Value__l0 : ACode := .loop c_slices_IndexFunc_Lapi_Value_api_Value__l0b
def c_slices_IndexFunc_Lapi_Value_api_Value__j1 : ACode :=
  .seq (.region false [⟨(some 4), .mv (.const (.int .i64 (-1))), none⟩])
  (.ret)
/-- slices.IndexFunc[[]simulator/api.Value,simulator/api.Value] -/
def c_slices_IndexFunc_Lapi_Value_api_Value_ : ACode :=
  .seq (.region false [⟨(some 4), .mv (.const (.int .i64 0)), none⟩])
  (.seq (.seq (.region false [⟨(some 6), .mv (.tmp 0), none⟩,
       ⟨(some 7), .len .slice (.tmp 6), none⟩,
       ⟨(some 8), .mv (.const (.int .i64 0)), none⟩])
    (.block 0 (c_slices_IndexFunc_Lapi_Value_api_Value__l0)))
   c_slices_IndexFunc_Lapi_Value_api_Value__j1)
def a_slices_IndexFunc_Lapi_Value_api_Value_ : AFn := ⟨19, [.tmp 4], c_slices_IndexFunc_Lapi_Value_api_Value_, false⟩
def p_slices_IndexFunc_Lapi_Value_api_Value_ : List Nat := []
theorem t_slices_IndexFunc_Lapi_Value_api_Value_ : cFn Tryz.prog takes Tryz.f99 = some a_slices_IndexFunc_Lapi_Value_api_Value_ := by kernel_rfl
theorem n_slices_IndexFunc_Lapi_Value_api_Value_ : (Tryz.f99.name == "runtime.NumGoroutine") = false := by kernel_rfl
/-- simulator/model.place$2 -/
def c_model_place_2 : ACode :=
  .seq (.region false [⟨(some 2), .box 92 17 (.tmp 0), none⟩,
     ⟨(some 3), .mv (.const (.bool false)), none⟩])
  (.seq (.region false [⟨(some 4), .fa 0 (.tmp 2), none⟩,
      ⟨(some 5), .ldc (.tmp 4), none⟩,
      ⟨(some 6), .ldc (.tmp 1), none⟩,
      ⟨(some 7), .bin .eql .prim (.tmp 5) (.tmp 6), none⟩,
      ⟨(some 3), .take 7, none⟩])
   (.ret))
def a_model_place_2 : AFn := ⟨8, [.tmp 3], c_model_place_2, false⟩
def p_model_place_2 : List Nat := []
theorem t_model_place_2 : cFn Tryz.prog takes Tryz.f102 = some a_model_place_2 := by kernel_rfl
theorem n_model_place_2 : (Tryz.f102.name == "runtime.NumGoroutine") = false := by kernel_rfl
def c_slices_IndexFunc_Lapi_ResourceDecl_api_ResourceDecl__l0b : ACode :=
  .seq (.region false [⟨(some 9), .bin .lss .prim (.tmp 8) (.tmp 7), none⟩])
  (.seq (.cond (.tmp 9) (.skip)
    (.exit 0))
   (.seq (.block 1 (.seq (.region false [⟨(some 10), .mv (.tmp 8), none⟩,
         ⟨(some 5), .take 10, none⟩])
      (.seq (.region false [⟨(some 11), .mv (.tmp 1), none⟩,
          ⟨(some 12), .mv (.tmp 0), none⟩,
          ⟨(some 13), .mv (.tmp 5), none⟩,
          ⟨(some 14), .ia (.slice 17) (.tmp 12) (.tmp 13), none⟩,
          ⟨(some 15), .lda 17 (.tmp 14), none⟩,
          ⟨(some 16), .call (.tmp 11) [(.inr (.tmp 15))], none⟩])
       (.cond (.tmp 16) (.seq (.region false [⟨(some 17), .take 5, none⟩,
            ⟨(some 4), .take 17, none⟩])
         (.ret))
        (.skip)))))
    (.region false [⟨(some 18), .bin .add .prim (.tmp 8) (.const (.int .i64 1)), none⟩,
       ⟨(some 8), .mv (.tmp 18), none⟩])))
def c_slices_IndexFunc_Lapi_ResourceDecl_api_ResourceDecl__l0 : ACode := .loop c_slices_IndexFunc_Lapi_ResourceDecl_api_ResourceDecl__l0b
def c_slices_IndexFunc_Lapi_ResourceDecl_api_ResourceDecl__j1 : ACode :=
  .seq (.region false [⟨(some 4), .mv (.const (.int .i64 (-1))), none⟩])
  (.ret)
/-- slices.IndexFunc[[]simulator/api.ResourceDecl,simulator/api.ResourceDecl] -/
def c_slices_IndexFunc_Lapi_ResourceDecl_api_ResourceDecl_ : ACode :=
  .seq (.region false [⟨(some 4), .mv (.const (.int .i64 0)), none⟩])
  (.seq (.seq (.region false [⟨(some 6), .mv (.tmp 0), none⟩,
       ⟨(some 7), .len .slice (.tmp 6), none⟩,
       ⟨(some 8), .mv (.const (.int .i64 0)), none⟩])
    (.block 0 (c_slices_IndexFunc_Lapi_ResourceDecl_api_ResourceDecl__l0)))
   c_slices_IndexFunc_Lapi_ResourceDecl_api_ResourceDecl__j1)
def a_slices_IndexFunc_Lapi_ResourceDecl_api_ResourceDecl_ : AFn := ⟨19, [.tmp 4], c_slices_IndexFunc_Lapi_ResourceDecl_api_ResourceDecl_, false⟩
def p_slices_IndexFunc_Lapi_ResourceDecl_api_ResourceDecl_ : List Nat := []
theorem t_slices_IndexFunc_Lapi_ResourceDecl_api_ResourceDecl_ : cFn Tryz.prog takes Tryz.f101 = some a_slices_IndexFunc_Lapi_ResourceDecl_api_ResourceDecl_ := by kernel_rfl
theorem n_slices_IndexFunc_Lapi_ResourceDecl_api_ResourceDecl_ : (Tryz.f101.name == "runtime.NumGoroutine") = false := by kernel_rfl
/-- simulator/model.place$3 -/
def c_model_place_3 : ACode :=
  .seq (.region false [⟨(some 2), .box 95 3 (.tmp 0), none⟩,
     ⟨(some 3), .mv (.const (.bool false)), none⟩])
  (.seq (.region false [⟨(some 4), .fa 0 (.tmp 2), none⟩,
      ⟨(some 5), .ldc (.tmp 4), none⟩,
      ⟨(some 6), .ldc (.tmp 1), none⟩,
      ⟨(some 7), .bin .eql .prim (.tmp 5) (.tmp 6), none⟩,
      ⟨(some 3), .take 7, none⟩])
   (.ret))
def a_model_place_3 : AFn := ⟨8, [.tmp 3], c_model_place_3, false⟩
def p_model_place_3 : List Nat := []
theorem t_model_place_3 : cFn Tryz.prog takes Tryz.f104 = some a_model_place_3 := by kernel_rfl
theorem n_model_place_3 : (Tryz.f104.name == "runtime.NumGoroutine") = false := by kernel_rfl
def c_slices_IndexFunc_Lapi_StoreDecl_api_StoreDecl__l0b : ACode :=
  .seq (.region false [⟨(some 9), .bin .lss .prim (.tmp 8) (.tmp 7), none⟩])
  (.seq (.cond (.tmp 9) (.skip)
    (.exit 0))
   (.seq (.block 1 (.seq (.region false [⟨(some 10), .mv (.tmp 8), none⟩,
         ⟨(some 5), .take 10, none⟩])
      (.seq (.region false [⟨(some 11), .mv (.tmp 1), none⟩,
          ⟨(some 12), .mv (.tmp 0), none⟩,
          ⟨(some 13), .mv (.tmp 5), none⟩,
          ⟨(some 14), .ia (.slice 3) (.tmp 12) (.tmp 13), none⟩,
          ⟨(some 15), .lda 3 (.tmp 14), none⟩,
          ⟨(some 16), .call (.tmp 11) [(.inr (.tmp 15))], none⟩])
       (.cond (.tmp 16) (.seq (.region false [⟨(some 17), .take 5, none⟩,
            ⟨(some 4), .take 17, none⟩])
         (.ret))
        (.skip)))))
    (.region false [⟨(some 18), .bin .add .prim (.tmp 8) (.const (.int .i64 1)), none⟩,
       ⟨(some 8), .mv (.tmp 18), none⟩])))
def c_slices_IndexFunc_Lapi_StoreDecl_api_StoreDecl__l0 : ACode := .loop c_slices_IndexFunc_Lapi_StoreDecl_api_StoreDecl__l0b
def c_slices_IndexFunc_Lapi_StoreDecl_api_StoreDecl__j1 : ACode :=
  .seq (.region false [⟨(some 4), .mv (.const (.int .i64 (-1))), none⟩])
  (.ret)
/-- slices.IndexFunc[[]simulator/api.StoreDecl,simulator/api.StoreDecl] -/
def c_slices_IndexFunc_Lapi_StoreDecl_api_StoreDecl_ : ACode :=
  .seq (.region false [⟨(some 4), .mv (.const (.int .i64 0)), none⟩])
  (.seq (.seq (.region false [⟨(some 6), .mv (.tmp 0), none⟩,
       ⟨(some 7), .len .slice (.tmp 6), none⟩,
       ⟨(some 8), .mv (.const (.int .i64 0)), none⟩])
    (.block 0 (c_slices_IndexFunc_Lapi_StoreDecl_api_StoreDecl__l0)))
   c_slices_IndexFunc_Lapi_StoreDecl_api_StoreDecl__j1)
def a_slices_IndexFunc_Lapi_StoreDecl_api_StoreDecl_ : AFn := ⟨19, [.tmp 4], c_slices_IndexFunc_Lapi_StoreDecl_api_StoreDecl_, false⟩
def p_slices_IndexFunc_Lapi_StoreDecl_api_StoreDecl_ : List Nat := []
theorem t_slices_IndexFunc_Lapi_StoreDecl_api_StoreDecl_ : cFn Tryz.prog takes Tryz.f103 = some a_slices_IndexFunc_Lapi_StoreDecl_api_StoreDecl_ := by kernel_rfl
theorem n_slices_IndexFunc_Lapi_StoreDecl_api_StoreDecl_ : (Tryz.f103.name == "runtime.NumGoroutine") = false := by kernel_rfl
/-- simulator/model.place$4 -/
def c_model_place_4 : ACode :=
  .seq (.region false [⟨(some 2), .box 97 3 (.tmp 0), none⟩,
     ⟨(some 3), .mv (.const (.bool false)), none⟩])
  (.seq (.region false [⟨(some 4), .fa 0 (.tmp 2), none⟩,
      ⟨(some 5), .ldc (.tmp 4), none⟩,
      ⟨(some 6), .ldc (.tmp 1), none⟩,
      ⟨(some 7), .bin .eql .prim (.tmp 5) (.tmp 6), none⟩,
      ⟨(some 3), .take 7, none⟩])
   (.ret))
def a_model_place_4 : AFn := ⟨8, [.tmp 3], c_model_place_4, false⟩
def p_model_place_4 : List Nat := []
theorem t_model_place_4 : cFn Tryz.prog takes Tryz.f106 = some a_model_place_4 := by kernel_rfl
theorem n_model_place_4 : (Tryz.f106.name == "runtime.NumGoroutine") = false := by kernel_rfl
def c_slices_IndexFunc_Lapi_BeltDecl_api_BeltDecl__l0b : ACode :=
  .seq (.region false [⟨(some 9), .bin .lss .prim (.tmp 8) (.tmp 7), none⟩])
  (.seq (.cond (.tmp 9) (.skip)
    (.exit 0))
   (.seq (.block 1 (.seq (.region false [⟨(some 10), .mv (.tmp 8), none⟩,
         ⟨(some 5), .take 10, none⟩])
      (.seq (.region false [⟨(some 11), .mv (.tmp 1), none⟩,
          ⟨(some 12), .mv (.tmp 0), none⟩,
          ⟨(some 13), .mv (.tmp 5), none⟩,
          ⟨(some 14), .ia (.slice 3) (.tmp 12) (.tmp 13), none⟩,
          ⟨(some 15), .lda 3 (.tmp 14), none⟩,
          ⟨(some 16), .call (.tmp 11) [(.inr (.tmp 15))], none⟩])
       (.cond (.tmp 16) (.seq (.region false [⟨(some 17), .take 5, none⟩,
            ⟨(some 4), .take 17, none⟩])
         (.ret))
        (.skip)))))
    (.region false [⟨(some 18), .bin .add .prim (.tmp 8) (.const (.int .i64 1)), none⟩,
       ⟨(some 8), .mv (.tmp 18), none⟩])))
def c_slices_IndexFunc_Lapi_BeltDecl_api_BeltDecl__l0 : ACode := .loop c_slices_IndexFunc_Lapi_BeltDecl_api_BeltDecl__l0b
def c_slices_IndexFunc_Lapi_BeltDecl_api_BeltDecl__j1 : ACode :=
  .seq (.region false [⟨(some 4), .mv (.const (.int .i64 (-1))), none⟩])
  (.ret)
/-- slices.IndexFunc[[]simulator/api.BeltDecl,simulator/api.BeltDecl] -/
def c_slices_IndexFunc_Lapi_BeltDecl_api_BeltDecl_ : ACode :=
  .seq (.region false [⟨(some 4), .mv (.const (.int .i64 0)), none⟩])
  (.seq (.seq (.region false [⟨(some 6), .mv (.tmp 0), none⟩,
       ⟨(some 7), .len .slice (.tmp 6), none⟩,
       ⟨(some 8), .mv (.const (.int .i64 0)), none⟩])
    (.block 0 (c_slices_IndexFunc_Lapi_BeltDecl_api_BeltDecl__l0)))
   c_slices_IndexFunc_Lapi_BeltDecl_api_BeltDecl__j1)
def a_slices_IndexFunc_Lapi_BeltDecl_api_BeltDecl_ : AFn := ⟨19, [.tmp 4], c_slices_IndexFunc_Lapi_BeltDecl_api_BeltDecl_, false⟩
def p_slices_IndexFunc_Lapi_BeltDecl_api_BeltDecl_ : List Nat := []
theorem t_slices_IndexFunc_Lapi_BeltDecl_api_BeltDecl_ : cFn Tryz.prog takes Tryz.f105 = some a_slices_IndexFunc_Lapi_BeltDecl_api_BeltDecl_ := by kernel_rfl
theorem n_slices_IndexFunc_Lapi_BeltDecl_api_BeltDecl_ : (Tryz.f105.name == "runtime.NumGoroutine") = false := by kernel_rfl
def c_slices_Index_Lstring_string__l0b : ACode :=
  .seq (.region false [⟨(some 9), .bin .lss .prim (.tmp 8) (.tmp 7), none⟩])
  (.seq (.cond (.tmp 9) (.skip)
    (.exit 0))
   (.seq (.block 1 (.seq (.region false [⟨(some 10), .mv (.tmp 8), none⟩,
         ⟨(some 5), .take 10, none⟩])
      (.seq (.region false [⟨(some 11), .mv (.tmp 1), none⟩,
          ⟨(some 12), .mv (.tmp 0), none⟩,
          ⟨(some 13), .mv (.tmp 5), none⟩,
          ⟨(some 14), .ia (.slice 1) (.tmp 12) (.tmp 13), none⟩,
          ⟨(some 15), .ldc (.tmp 14), none⟩,
          ⟨(some 16), .bin .eql .prim (.tmp 11) (.tmp 15), none⟩])
       (.cond (.tmp 16) (.seq (.region false [⟨(some 17), .take 5, none⟩,
            ⟨(some 4), .take 17, none⟩])
         (.ret))
        (.skip)))))
    (.region false [⟨(some 18), .bin .add .prim (.tmp 8) (.const (.int .i64 1)), none⟩,
       ⟨(some 8), .mv (.tmp 18), none⟩])))
def c_slices_Index_Lstring_string__l0 : ACode := .loop c_slices_Index_Lstring_string__l0b
def c_slices_Index_Lstring_string__j1 : ACode :=
  .seq (.region false [⟨(some 4), .mv (.const (.int .i64 (-1))), none⟩])
  (.ret)
/-- slices.Index[[]string,string] -/
def c_slices_Index_Lstring_string_ : ACode :=
  .seq (.region false [⟨(some 4), .mv (.const (.int .i64 0)), none⟩])
  (.seq (.seq (.region false [⟨(some 6), .mv (.tmp 0), none⟩,
       ⟨(some 7), .len .slice (.tmp 6), none⟩,
       ⟨(some 8), .mv (.const (.int .i64 0)), none⟩])
    (.block 0 (c_slices_Index_Lstring_string__l0)))
   c_slices_Index_Lstring_string__j1)
def a_slices_Index_Lstring_string_ : AFn := ⟨19, [.tmp 4], c_slices_Index_Lstring_string_, false⟩
def p_slices_Index_Lstring_string_ : List Nat := []
theorem t_slices_Index_Lstring_string_ : cFn Tryz.prog takes Tryz.f107 = some a_slices_Index_Lstring_string_ := by kernel_rfl
theorem n_slices_Index_Lstring_string_ : (Tryz.f107.name == "runtime.NumGoroutine") = false := by kernel_rfl
def tab : List (Nat × AFn) := [(4, a_law11_ModelFinds), (8, a_law11_light), (12, a_model_Link), (13, a_r11_Link), (14, a_model_Site), (15, a_r11_Site), (16, a_model_Routine), (17, a_r11_Routine), (18, a_model_Kind), (19, a_r11_Kind), (20, a_model_Index), (21, a_r11_Index), (22, a_r11_Names), (41, a_model_Link_1), (40, a_slices_IndexFunc_Lapi_Link_api_Link_), (43, a_model_Site_1), (42, a_slices_IndexFunc_Lapi_SiteDecl_api_SiteDecl_), (45, a_model_Routine_1), (44, a_slices_IndexFunc_Lapi_Routine_api_Routine_), (46, a_r07_Find), (47, a_model_place), (100, a_model_place_1), (99, a_slices_IndexFunc_Lapi_Value_api_Value_), (102, a_model_place_2), (101, a_slices_IndexFunc_Lapi_ResourceDecl_api_ResourceDecl_), (104, a_model_place_3), (103, a_slices_IndexFunc_Lapi_StoreDecl_api_StoreDecl_), (106, a_model_place_4), (105, a_slices_IndexFunc_Lapi_BeltDecl_api_BeltDecl_), (107, a_slices_Index_Lstring_string_)]
theorem tab_ok : ∀ p ∈ tab, ∃ fn takes, Tryz.prog.funcs[p.1]? = some fn ∧ (fn.name == "runtime.NumGoroutine") = false ∧ cFn Tryz.prog takes fn = some p.2 := by
  intro p hp
  simp only [tab, List.mem_cons, List.not_mem_nil, or_false] at hp
  rcases hp with rfl | rfl | rfl | rfl | rfl | rfl | rfl | rfl | rfl | rfl | rfl | rfl | rfl | rfl | rfl | rfl | rfl | rfl | rfl | rfl | rfl | rfl | rfl | rfl | rfl | rfl | rfl | rfl | rfl | rfl
  · exact ⟨Tryz.f4, takes, Tryz.func4, n_law11_ModelFinds, t_law11_ModelFinds⟩
  · exact ⟨Tryz.f8, takes, Tryz.func8, n_law11_light, t_law11_light⟩
  · exact ⟨Tryz.f12, takes, Tryz.func12, n_model_Link, t_model_Link⟩
  · exact ⟨Tryz.f13, takes, Tryz.func13, n_r11_Link, t_r11_Link⟩
  · exact ⟨Tryz.f14, takes, Tryz.func14, n_model_Site, t_model_Site⟩
  · exact ⟨Tryz.f15, takes, Tryz.func15, n_r11_Site, t_r11_Site⟩
  · exact ⟨Tryz.f16, takes, Tryz.func16, n_model_Routine, t_model_Routine⟩
  · exact ⟨Tryz.f17, takes, Tryz.func17, n_r11_Routine, t_r11_Routine⟩
  · exact ⟨Tryz.f18, takes, Tryz.func18, n_model_Kind, t_model_Kind⟩
  · exact ⟨Tryz.f19, takes, Tryz.func19, n_r11_Kind, t_r11_Kind⟩
  · exact ⟨Tryz.f20, takes, Tryz.func20, n_model_Index, t_model_Index⟩
  · exact ⟨Tryz.f21, takes, Tryz.func21, n_r11_Index, t_r11_Index⟩
  · exact ⟨Tryz.f22, takes, Tryz.func22, n_r11_Names, t_r11_Names⟩
  · exact ⟨Tryz.f41, takes, Tryz.func41, n_model_Link_1, t_model_Link_1⟩
  · exact ⟨Tryz.f40, takes, Tryz.func40, n_slices_IndexFunc_Lapi_Link_api_Link_, t_slices_IndexFunc_Lapi_Link_api_Link_⟩
  · exact ⟨Tryz.f43, takes, Tryz.func43, n_model_Site_1, t_model_Site_1⟩
  · exact ⟨Tryz.f42, takes, Tryz.func42, n_slices_IndexFunc_Lapi_SiteDecl_api_SiteDecl_, t_slices_IndexFunc_Lapi_SiteDecl_api_SiteDecl_⟩
  · exact ⟨Tryz.f45, takes, Tryz.func45, n_model_Routine_1, t_model_Routine_1⟩
  · exact ⟨Tryz.f44, takes, Tryz.func44, n_slices_IndexFunc_Lapi_Routine_api_Routine_, t_slices_IndexFunc_Lapi_Routine_api_Routine_⟩
  · exact ⟨Tryz.f46, takes, Tryz.func46, n_r07_Find, t_r07_Find⟩
  · exact ⟨Tryz.f47, takes, Tryz.func47, n_model_place, t_model_place⟩
  · exact ⟨Tryz.f100, takes, Tryz.func100, n_model_place_1, t_model_place_1⟩
  · exact ⟨Tryz.f99, takes, Tryz.func99, n_slices_IndexFunc_Lapi_Value_api_Value_, t_slices_IndexFunc_Lapi_Value_api_Value_⟩
  · exact ⟨Tryz.f102, takes, Tryz.func102, n_model_place_2, t_model_place_2⟩
  · exact ⟨Tryz.f101, takes, Tryz.func101, n_slices_IndexFunc_Lapi_ResourceDecl_api_ResourceDecl_, t_slices_IndexFunc_Lapi_ResourceDecl_api_ResourceDecl_⟩
  · exact ⟨Tryz.f104, takes, Tryz.func104, n_model_place_3, t_model_place_3⟩
  · exact ⟨Tryz.f103, takes, Tryz.func103, n_slices_IndexFunc_Lapi_StoreDecl_api_StoreDecl_, t_slices_IndexFunc_Lapi_StoreDecl_api_StoreDecl_⟩
  · exact ⟨Tryz.f106, takes, Tryz.func106, n_model_place_4, t_model_place_4⟩
  · exact ⟨Tryz.f105, takes, Tryz.func105, n_slices_IndexFunc_Lapi_BeltDecl_api_BeltDecl_, t_slices_IndexFunc_Lapi_BeltDecl_api_BeltDecl_⟩
  · exact ⟨Tryz.f107, takes, Tryz.func107, n_slices_Index_Lstring_string_, t_slices_Index_Lstring_string_⟩
end Go.Proofs.YtlmfmmclnboglaaGreat
