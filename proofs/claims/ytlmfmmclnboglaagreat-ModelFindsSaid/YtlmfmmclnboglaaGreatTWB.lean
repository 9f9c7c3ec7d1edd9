/-
  More functions in the evaluator's terms, the second half; printed by wip/abs/T6.lean.txt.
-/
import Derived.Test.YtlmfmmclnboglaaGreatTWA
namespace Go.Proofs.YtlmfmmclnboglaaGreat
open Go Go.Proofs.YtlmfmmclnboglaaGreat.Abs
set_option maxRecDepth 100000
set_option maxHeartbeats 0
set_option linter.all false
/-- simulator/num.In -/
def c_num_In : ACode :=
  .seq (.region false [⟨(some 2), .mv (.const (.bool false)), none⟩])
  (.seq (.region false [⟨(some 3), .mv (.tmp 0), none⟩,
      ⟨(some 4), .bin .geq .prim (.tmp 3) (.const (.int .i64 (-1000000000000))), none⟩,
      ⟨(some 5), .mv (.tmp 4), none⟩,
      ⟨(some 6), .mv (.tmp 0), (some (5, true))⟩,
      ⟨(some 7), .bin .leq .prim (.tmp 6) (.const (.int .i64 1000000000000)), (some (5, true))⟩,
      ⟨(some 8), .pick (.tmp 5) (.tmp 7) (.const (.bool false)), none⟩,
      ⟨(some 2), .take 8, none⟩])
   (.ret))
def a_num_In : AFn := ⟨9, [.tmp 2], c_num_In, false⟩
theorem t_num_In : cFn Tryz.prog takesW Tryz.f137 = some a_num_In := by kernel_rfl
theorem n_num_In : (Tryz.f137.name == "runtime.NumGoroutine") = false := by kernel_rfl
def c_model_each_string__l0b : ACode :=
  .seq (.region false [⟨(some 17), .bin .lss .prim (.tmp 16) (.tmp 15), none⟩])
  (.seq (.cond (.tmp 17) (.skip)
    (.exit 0))
   (.seq (.block 1 (.seq (.region false [⟨(some 18), .ia (.slice 1) (.tmp 14) (.tmp 16), none⟩,
         ⟨(some 19), .ldc (.tmp 18), none⟩,
         ⟨(some 8), .take 19, none⟩])
      (.seq (.region false [⟨(some 20), .mv (.tmp 2), none⟩,
          ⟨(some 21), .mv (.tmp 8), none⟩,
          ⟨(some 22), .call (.tmp 20) [(.inr (.tmp 21))], none⟩,
          ⟨(some 9), .take 22, none⟩])
       (.seq (.region false [⟨(some 23), .mv (.tmp 9), none⟩,
           ⟨(some 24), .bin .neq .prim (.tmp 23) (.const (.int .i64 0)), none⟩])
        (.cond (.tmp 24) (.seq (.region false [⟨(some 25), .take 9, none⟩,
             ⟨(some 6), .take 25, none⟩])
          (.ret))
         (.skip))))))
    (.region false [⟨(some 26), .bin .add .prim (.tmp 16) (.const (.int .i64 1)), none⟩,
       ⟨(some 16), .mv (.tmp 26), none⟩])))
def c_model_each_string__l0 : ACode := .loop c_model_each_string__l0b
def c_model_each_string__j1 : ACode :=
  .seq (.region false [⟨(some 6), .mv (.const (.int .i64 0)), none⟩])
  (.ret)
/-- simulator/model.each[string] -/
def c_model_each_string_ : ACode :=
  .seq (.region false [⟨(some 6), .mv (.const (.int .i64 0)), none⟩])
  (.seq (.seq (.region false [⟨(some 10), .mv (.tmp 0), none⟩,
       ⟨(some 11), .len .slice (.tmp 10), none⟩,
       ⟨(some 12), .mv (.tmp 1), none⟩,
       ⟨(some 13), .bin .gtr .prim (.tmp 11) (.tmp 12), none⟩])
    (.cond (.tmp 13) (.seq (.region false [⟨(some 6), .mv (.const (.int .i64 6)), none⟩])
      (.ret))
     (.skip)))
   (.seq (.seq (.region false [⟨(some 14), .mv (.tmp 0), none⟩,
        ⟨(some 15), .len .slice (.tmp 14), none⟩,
        ⟨(some 16), .mv (.const (.int .i64 0)), none⟩])
     (.block 0 (c_model_each_string__l0)))
    c_model_each_string__j1))
def a_model_each_string_ : AFn := ⟨27, [.tmp 6], c_model_each_string_, false⟩
theorem t_model_each_string_ : cFn Tryz.prog takesW Tryz.f59 = some a_model_each_string_ := by kernel_rfl
theorem n_model_each_string_ : (Tryz.f59.name == "runtime.NumGoroutine") = false := by kernel_rfl
/-- simulator/model.site$3$1 -/
def c_model_site_3_1 : ACode :=
  .seq (.region false [⟨(some 3), .box 92 17 (.tmp 0), none⟩,
     ⟨(some 4), .mv (.const (.int .i64 0)), none⟩])
  (.seq (.seq (.region false [⟨(some 7), .ldc (.tmp 1), none⟩,
       ⟨(some 8), .fa 0 (.tmp 3), none⟩,
       ⟨(some 9), .ldc (.tmp 8), none⟩,
       ⟨(some 10), .call (.const (.fn 30 [] [])) [(.inr (.tmp 7)), (.inr (.tmp 9))], none⟩,
       ⟨(some 5), .take 10, none⟩])
    (.seq (.region false [⟨(some 11), .mv (.tmp 5), none⟩,
        ⟨(some 12), .bin .neq .prim (.tmp 11) (.const (.int .i64 0)), none⟩])
     (.cond (.tmp 12) (.seq (.region false [⟨(some 13), .take 5, none⟩,
          ⟨(some 4), .take 13, none⟩])
       (.ret))
      (.skip))))
   (.seq (.seq (.region false [⟨(some 14), .fa 1 (.tmp 3), none⟩,
        ⟨(some 15), .ldc (.tmp 14), none⟩,
        ⟨(some 16), .call (.const (.fn 65 [] [])) [(.inr (.tmp 15)), (.inr (.const (.int .i64 0))), (.inr (.const (.int .i64 1000)))], none⟩,
        ⟨(some 17), .un .not (.tmp 16), none⟩])
     (.cond (.tmp 17) (.seq (.region false [⟨(some 4), .mv (.const (.int .i64 2)), none⟩])
       (.ret))
      (.skip)))
    (.seq (.seq (.region false [⟨(some 18), .lda 17 (.tmp 3), none⟩,
         ⟨(some 19), .call (.const (.fn 66 [] [])) [(.inr (.tmp 18))], none⟩,
         ⟨(some 6), .take 19, none⟩])
      (.seq (.region false [⟨(some 20), .mv (.tmp 6), none⟩,
          ⟨(some 21), .bin .neq .prim (.tmp 20) (.const (.int .i64 0)), none⟩])
       (.cond (.tmp 21) (.seq (.region false [⟨(some 22), .take 6, none⟩,
            ⟨(some 4), .take 22, none⟩])
         (.ret))
        (.skip))))
     (.seq (.region false [⟨(some 23), .lda 13 (.tmp 2), none⟩,
         ⟨(some 24), .fa 4 (.tmp 3), none⟩,
         ⟨(some 25), .lda 13 (.tmp 24), none⟩,
         ⟨(some 26), .call (.const (.fn 67 [] [])) [(.inr (.tmp 23)), (.inr (.tmp 25))], none⟩,
         ⟨(some 4), .take 26, none⟩])
      (.ret)))))
def a_model_site_3_1 : AFn := ⟨27, [.tmp 4], c_model_site_3_1, false⟩
theorem t_model_site_3_1 : cFn Tryz.prog takesW Tryz.f64 = some a_model_site_3_1 := by kernel_rfl
theorem n_model_site_3_1 : (Tryz.f64.name == "runtime.NumGoroutine") = false := by kernel_rfl
def c_model_each_api_ResourceDecl__l0b : ACode :=
  .seq (.region false [⟨(some 17), .bin .lss .prim (.tmp 16) (.tmp 15), none⟩])
  (.seq (.cond (.tmp 17) (.skip)
    (.exit 0))
   (.seq (.block 1 (.seq (.region false [⟨(some 18), .ia (.slice 17) (.tmp 14) (.tmp 16), none⟩,
         ⟨(some 19), .lda 17 (.tmp 18), none⟩,
         ⟨(some 8), .mk 92 [(.str []), (.int .i64 0), (.own 2 []), (.int .i64 0), (.str []), (.int .i64 0), (.int .i64 0), (.int .i64 0), (.int .i64 0), (.own 1 []), (.own 1 []), (.int .i64 0), (.int .i64 0), (.int .i64 0), (.int .i64 0), (.own 1 []), (.own 1 [])], none⟩,
         ⟨none, .st 17 (.tmp 8) (.tmp 19), none⟩])
      (.seq (.region false [⟨(some 20), .mv (.tmp 2), none⟩,
          ⟨(some 21), .lda 17 (.tmp 8), none⟩,
          ⟨(some 22), .call (.tmp 20) [(.inr (.tmp 21))], none⟩,
          ⟨(some 9), .take 22, none⟩])
       (.seq (.region false [⟨(some 23), .mv (.tmp 9), none⟩,
           ⟨(some 24), .bin .neq .prim (.tmp 23) (.const (.int .i64 0)), none⟩])
        (.cond (.tmp 24) (.seq (.region false [⟨(some 25), .take 9, none⟩,
             ⟨(some 6), .take 25, none⟩])
          (.ret))
         (.skip))))))
    (.region false [⟨(some 26), .bin .add .prim (.tmp 16) (.const (.int .i64 1)), none⟩,
       ⟨(some 16), .mv (.tmp 26), none⟩])))
def c_model_each_api_ResourceDecl__l0 : ACode := .loop c_model_each_api_ResourceDecl__l0b
def c_model_each_api_ResourceDecl__j1 : ACode :=
  .seq (.region false [⟨(some 6), .mv (.const (.int .i64 0)), none⟩])
  (.ret)
/-- simulator/model.each[simulator/api.ResourceDecl] -/
def c_model_each_api_ResourceDecl_ : ACode :=
  .seq (.region false [⟨(some 6), .mv (.const (.int .i64 0)), none⟩])
  (.seq (.seq (.region false [⟨(some 10), .mv (.tmp 0), none⟩,
       ⟨(some 11), .len .slice (.tmp 10), none⟩,
       ⟨(some 12), .mv (.tmp 1), none⟩,
       ⟨(some 13), .bin .gtr .prim (.tmp 11) (.tmp 12), none⟩])
    (.cond (.tmp 13) (.seq (.region false [⟨(some 6), .mv (.const (.int .i64 6)), none⟩])
      (.ret))
     (.skip)))
   (.seq (.seq (.region false [⟨(some 14), .mv (.tmp 0), none⟩,
        ⟨(some 15), .len .slice (.tmp 14), none⟩,
        ⟨(some 16), .mv (.const (.int .i64 0)), none⟩])
     (.block 0 (c_model_each_api_ResourceDecl__l0)))
    c_model_each_api_ResourceDecl__j1))
def a_model_each_api_ResourceDecl_ : AFn := ⟨27, [.tmp 6], c_model_each_api_ResourceDecl_, false⟩
theorem t_model_each_api_ResourceDecl_ : cFn Tryz.prog takesW Tryz.f63 = some a_model_each_api_ResourceDecl_ := by kernel_rfl
theorem n_model_each_api_ResourceDecl_ : (Tryz.f63.name == "runtime.NumGoroutine") = false := by kernel_rfl
/-- simulator/model.site$4$1 -/
def c_model_site_4_1 : ACode :=
  .seq (.region false [⟨(some 2), .box 95 3 (.tmp 0), none⟩,
     ⟨(some 3), .mv (.const (.int .i64 0)), none⟩])
  (.seq (.seq (.region false [⟨(some 5), .ldc (.tmp 1), none⟩,
       ⟨(some 6), .fa 0 (.tmp 2), none⟩,
       ⟨(some 7), .ldc (.tmp 6), none⟩,
       ⟨(some 8), .call (.const (.fn 30 [] [])) [(.inr (.tmp 5)), (.inr (.tmp 7))], none⟩,
       ⟨(some 4), .take 8, none⟩])
    (.seq (.region false [⟨(some 9), .mv (.tmp 4), none⟩,
        ⟨(some 10), .bin .neq .prim (.tmp 9) (.const (.int .i64 0)), none⟩])
     (.cond (.tmp 10) (.seq (.region false [⟨(some 11), .take 4, none⟩,
          ⟨(some 3), .take 11, none⟩])
       (.ret))
      (.skip))))
   (.seq (.block 0 (.seq (.region false [⟨(some 13), .fa 1 (.tmp 2), none⟩,
         ⟨(some 14), .ldc (.tmp 13), none⟩,
         ⟨(some 15), .call (.const (.fn 65 [] [])) [(.inr (.tmp 14)), (.inr (.const (.int .i64 1))), (.inr (.const (.int .i64 1000)))], none⟩,
         ⟨(some 16), .un .not (.tmp 15), none⟩,
         ⟨(some 12), .take 16, none⟩])
      (.cond (.tmp 12) (.seq (.region false [⟨(some 3), .mv (.const (.int .i64 2)), none⟩])
        (.ret))
       (.seq (.region false [⟨(some 18), .fa 2 (.tmp 2), none⟩,
           ⟨(some 19), .ldc (.tmp 18), none⟩,
           ⟨(some 20), .bin .lss .prim (.tmp 19) (.const (.int .i64 1)), none⟩,
           ⟨(some 21), .mv (.tmp 20), none⟩,
           ⟨(some 22), .fa 2 (.tmp 2), (some (21, false))⟩,
           ⟨(some 23), .ldc (.tmp 22), (some (21, false))⟩,
           ⟨(some 24), .bin .gtr .prim (.tmp 23) (.const (.int .i64 3)), (some (21, false))⟩,
           ⟨(some 25), .pick (.tmp 21) (.const (.bool true)) (.tmp 24), none⟩,
           ⟨(some 17), .take 25, none⟩])
        (.cond (.tmp 17) (.seq (.region false [⟨(some 3), .mv (.const (.int .i64 1)), none⟩])
          (.ret))
         (.skip))))))
    (.seq (.region false [⟨(some 3), .mv (.const (.int .i64 0)), none⟩])
     (.ret))))
def a_model_site_4_1 : AFn := ⟨26, [.tmp 3], c_model_site_4_1, false⟩
theorem t_model_site_4_1 : cFn Tryz.prog takesW Tryz.f70 = some a_model_site_4_1 := by kernel_rfl
theorem n_model_site_4_1 : (Tryz.f70.name == "runtime.NumGoroutine") = false := by kernel_rfl
def c_model_each_api_StoreDecl__l0b : ACode :=
  .seq (.region false [⟨(some 17), .bin .lss .prim (.tmp 16) (.tmp 15), none⟩])
  (.seq (.cond (.tmp 17) (.skip)
    (.exit 0))
   (.seq (.block 1 (.seq (.region false [⟨(some 18), .ia (.slice 3) (.tmp 14) (.tmp 16), none⟩,
         ⟨(some 19), .lda 3 (.tmp 18), none⟩,
         ⟨(some 8), .mk 95 [(.str []), (.int .i64 0), (.int .i64 0)], none⟩,
         ⟨none, .st 3 (.tmp 8) (.tmp 19), none⟩])
      (.seq (.region false [⟨(some 20), .mv (.tmp 2), none⟩,
          ⟨(some 21), .lda 3 (.tmp 8), none⟩,
          ⟨(some 22), .call (.tmp 20) [(.inr (.tmp 21))], none⟩,
          ⟨(some 9), .take 22, none⟩])
       (.seq (.region false [⟨(some 23), .mv (.tmp 9), none⟩,
           ⟨(some 24), .bin .neq .prim (.tmp 23) (.const (.int .i64 0)), none⟩])
        (.cond (.tmp 24) (.seq (.region false [⟨(some 25), .take 9, none⟩,
             ⟨(some 6), .take 25, none⟩])
          (.ret))
         (.skip))))))
    (.region false [⟨(some 26), .bin .add .prim (.tmp 16) (.const (.int .i64 1)), none⟩,
       ⟨(some 16), .mv (.tmp 26), none⟩])))
def c_model_each_api_StoreDecl__l0 : ACode := .loop c_model_each_api_StoreDecl__l0b
def c_model_each_api_StoreDecl__j1 : ACode :=
  .seq (.region false [⟨(some 6), .mv (.const (.int .i64 0)), none⟩])
  (.ret)
/-- simulator/model.each[simulator/api.StoreDecl] -/
def c_model_each_api_StoreDecl_ : ACode :=
  .seq (.region false [⟨(some 6), .mv (.const (.int .i64 0)), none⟩])
  (.seq (.seq (.region false [⟨(some 10), .mv (.tmp 0), none⟩,
       ⟨(some 11), .len .slice (.tmp 10), none⟩,
       ⟨(some 12), .mv (.tmp 1), none⟩,
       ⟨(some 13), .bin .gtr .prim (.tmp 11) (.tmp 12), none⟩])
    (.cond (.tmp 13) (.seq (.region false [⟨(some 6), .mv (.const (.int .i64 6)), none⟩])
      (.ret))
     (.skip)))
   (.seq (.seq (.region false [⟨(some 14), .mv (.tmp 0), none⟩,
        ⟨(some 15), .len .slice (.tmp 14), none⟩,
        ⟨(some 16), .mv (.const (.int .i64 0)), none⟩])
     (.block 0 (c_model_each_api_StoreDecl__l0)))
    c_model_each_api_StoreDecl__j1))
def a_model_each_api_StoreDecl_ : AFn := ⟨27, [.tmp 6], c_model_each_api_StoreDecl_, false⟩
theorem t_model_each_api_StoreDecl_ : cFn Tryz.prog takesW Tryz.f69 = some a_model_each_api_StoreDecl_ := by kernel_rfl
theorem n_model_each_api_StoreDecl_ : (Tryz.f69.name == "runtime.NumGoroutine") = false := by kernel_rfl
/-- simulator/model.site$5$1 -/
def c_model_site_5_1 : ACode :=
  .seq (.region false [⟨(some 2), .box 97 3 (.tmp 0), none⟩,
     ⟨(some 3), .mv (.const (.int .i64 0)), none⟩])
  (.seq (.seq (.region false [⟨(some 5), .ldc (.tmp 1), none⟩,
       ⟨(some 6), .fa 0 (.tmp 2), none⟩,
       ⟨(some 7), .ldc (.tmp 6), none⟩,
       ⟨(some 8), .call (.const (.fn 30 [] [])) [(.inr (.tmp 5)), (.inr (.tmp 7))], none⟩,
       ⟨(some 4), .take 8, none⟩])
    (.seq (.region false [⟨(some 9), .mv (.tmp 4), none⟩,
        ⟨(some 10), .bin .neq .prim (.tmp 9) (.const (.int .i64 0)), none⟩])
     (.cond (.tmp 10) (.seq (.region false [⟨(some 11), .take 4, none⟩,
          ⟨(some 3), .take 11, none⟩])
       (.ret))
      (.skip))))
   (.seq (.seq (.region false [⟨(some 12), .fa 1 (.tmp 2), none⟩,
        ⟨(some 13), .ldc (.tmp 12), none⟩,
        ⟨(some 14), .call (.const (.fn 65 [] [])) [(.inr (.tmp 13)), (.inr (.const (.int .i64 1))), (.inr (.const (.int .i64 1000)))], none⟩,
        ⟨(some 15), .un .not (.tmp 14), none⟩,
        ⟨(some 16), .mv (.tmp 15), none⟩,
        ⟨(some 17), .fa 2 (.tmp 2), (some (16, false))⟩,
        ⟨(some 18), .ldc (.tmp 17), (some (16, false))⟩,
        ⟨(some 19), .call (.const (.fn 65 [] [])) [(.inr (.tmp 18)), (.inr (.const (.int .i64 1))), (.inr (.const (.int .i64 1000)))], (some (16, false))⟩,
        ⟨(some 20), .un .not (.tmp 19), (some (16, false))⟩,
        ⟨(some 21), .pick (.tmp 16) (.const (.bool true)) (.tmp 20), none⟩])
     (.cond (.tmp 21) (.seq (.region false [⟨(some 3), .mv (.const (.int .i64 2)), none⟩])
       (.ret))
      (.skip)))
    (.seq (.region false [⟨(some 3), .mv (.const (.int .i64 0)), none⟩])
     (.ret))))
def a_model_site_5_1 : AFn := ⟨22, [.tmp 3], c_model_site_5_1, false⟩
theorem t_model_site_5_1 : cFn Tryz.prog takesW Tryz.f73 = some a_model_site_5_1 := by kernel_rfl
theorem n_model_site_5_1 : (Tryz.f73.name == "runtime.NumGoroutine") = false := by kernel_rfl
def c_model_each_api_BeltDecl__l0b : ACode :=
  .seq (.region false [⟨(some 17), .bin .lss .prim (.tmp 16) (.tmp 15), none⟩])
  (.seq (.cond (.tmp 17) (.skip)
    (.exit 0))
   (.seq (.block 1 (.seq (.region false [⟨(some 18), .ia (.slice 3) (.tmp 14) (.tmp 16), none⟩,
         ⟨(some 19), .lda 3 (.tmp 18), none⟩,
         ⟨(some 8), .mk 97 [(.str []), (.int .i64 0), (.int .i64 0)], none⟩,
         ⟨none, .st 3 (.tmp 8) (.tmp 19), none⟩])
      (.seq (.region false [⟨(some 20), .mv (.tmp 2), none⟩,
          ⟨(some 21), .lda 3 (.tmp 8), none⟩,
          ⟨(some 22), .call (.tmp 20) [(.inr (.tmp 21))], none⟩,
          ⟨(some 9), .take 22, none⟩])
       (.seq (.region false [⟨(some 23), .mv (.tmp 9), none⟩,
           ⟨(some 24), .bin .neq .prim (.tmp 23) (.const (.int .i64 0)), none⟩])
        (.cond (.tmp 24) (.seq (.region false [⟨(some 25), .take 9, none⟩,
             ⟨(some 6), .take 25, none⟩])
          (.ret))
         (.skip))))))
    (.region false [⟨(some 26), .bin .add .prim (.tmp 16) (.const (.int .i64 1)), none⟩,
       ⟨(some 16), .mv (.tmp 26), none⟩])))
def c_model_each_api_BeltDecl__l0 : ACode := .loop c_model_each_api_BeltDecl__l0b
def c_model_each_api_BeltDecl__j1 : ACode :=
  .seq (.region false [⟨(some 6), .mv (.const (.int .i64 0)), none⟩])
  (.ret)
/-- simulator/model.each[simulator/api.BeltDecl] -/
def c_model_each_api_BeltDecl_ : ACode :=
  .seq (.region false [⟨(some 6), .mv (.const (.int .i64 0)), none⟩])
  (.seq (.seq (.region false [⟨(some 10), .mv (.tmp 0), none⟩,
       ⟨(some 11), .len .slice (.tmp 10), none⟩,
       ⟨(some 12), .mv (.tmp 1), none⟩,
       ⟨(some 13), .bin .gtr .prim (.tmp 11) (.tmp 12), none⟩])
    (.cond (.tmp 13) (.seq (.region false [⟨(some 6), .mv (.const (.int .i64 6)), none⟩])
      (.ret))
     (.skip)))
   (.seq (.seq (.region false [⟨(some 14), .mv (.tmp 0), none⟩,
        ⟨(some 15), .len .slice (.tmp 14), none⟩,
        ⟨(some 16), .mv (.const (.int .i64 0)), none⟩])
     (.block 0 (c_model_each_api_BeltDecl__l0)))
    c_model_each_api_BeltDecl__j1))
def a_model_each_api_BeltDecl_ : AFn := ⟨27, [.tmp 6], c_model_each_api_BeltDecl_, false⟩
theorem t_model_each_api_BeltDecl_ : cFn Tryz.prog takesW Tryz.f72 = some a_model_each_api_BeltDecl_ := by kernel_rfl
theorem n_model_each_api_BeltDecl_ : (Tryz.f72.name == "runtime.NumGoroutine") = false := by kernel_rfl
/-- simulator/model.site$11$1 -/
def c_model_site_11_1 : ACode :=
  .seq (.region false [⟨(some 2), .box 79 4 (.tmp 0), none⟩,
     ⟨(some 3), .mv (.const (.int .i64 0)), none⟩])
  (.seq (.seq (.region false [⟨(some 5), .ldc (.tmp 1), none⟩,
       ⟨(some 6), .fa 0 (.tmp 2), none⟩,
       ⟨(some 7), .ldc (.tmp 6), none⟩,
       ⟨(some 8), .call (.const (.fn 30 [] [])) [(.inr (.tmp 5)), (.inr (.tmp 7))], none⟩,
       ⟨(some 4), .take 8, none⟩])
    (.seq (.region false [⟨(some 9), .mv (.tmp 4), none⟩,
        ⟨(some 10), .bin .neq .prim (.tmp 9) (.const (.int .i64 0)), none⟩])
     (.cond (.tmp 10) (.seq (.region false [⟨(some 11), .take 4, none⟩,
          ⟨(some 3), .take 11, none⟩])
       (.ret))
      (.skip))))
   (.seq (.region false [⟨(some 12), .lda 4 (.tmp 2), none⟩,
       ⟨(some 13), .call (.const (.fn 82 [] [])) [(.inr (.tmp 12))], none⟩,
       ⟨(some 3), .take 13, none⟩])
    (.ret)))
def a_model_site_11_1 : AFn := ⟨14, [.tmp 3], c_model_site_11_1, false⟩
theorem t_model_site_11_1 : cFn Tryz.prog takesW Tryz.f81 = some a_model_site_11_1 := by kernel_rfl
theorem n_model_site_11_1 : (Tryz.f81.name == "runtime.NumGoroutine") = false := by kernel_rfl
def c_model_each_api_Routine__l0b : ACode :=
  .seq (.region false [⟨(some 17), .bin .lss .prim (.tmp 16) (.tmp 15), none⟩])
  (.seq (.cond (.tmp 17) (.skip)
    (.exit 0))
   (.seq (.block 1 (.seq (.region false [⟨(some 18), .ia (.slice 4) (.tmp 14) (.tmp 16), none⟩,
         ⟨(some 19), .lda 4 (.tmp 18), none⟩,
         ⟨(some 8), .mk 79 [(.str []), (.own 2 []), (.own 2 []), (.own 21 [])], none⟩,
         ⟨none, .st 4 (.tmp 8) (.tmp 19), none⟩])
      (.seq (.region false [⟨(some 20), .mv (.tmp 2), none⟩,
          ⟨(some 21), .lda 4 (.tmp 8), none⟩,
          ⟨(some 22), .call (.tmp 20) [(.inr (.tmp 21))], none⟩,
          ⟨(some 9), .take 22, none⟩])
       (.seq (.region false [⟨(some 23), .mv (.tmp 9), none⟩,
           ⟨(some 24), .bin .neq .prim (.tmp 23) (.const (.int .i64 0)), none⟩])
        (.cond (.tmp 24) (.seq (.region false [⟨(some 25), .take 9, none⟩,
             ⟨(some 6), .take 25, none⟩])
          (.ret))
         (.skip))))))
    (.region false [⟨(some 26), .bin .add .prim (.tmp 16) (.const (.int .i64 1)), none⟩,
       ⟨(some 16), .mv (.tmp 26), none⟩])))
def c_model_each_api_Routine__l0 : ACode := .loop c_model_each_api_Routine__l0b
def c_model_each_api_Routine__j1 : ACode :=
  .seq (.region false [⟨(some 6), .mv (.const (.int .i64 0)), none⟩])
  (.ret)
/-- simulator/model.each[simulator/api.Routine] -/
def c_model_each_api_Routine_ : ACode :=
  .seq (.region false [⟨(some 6), .mv (.const (.int .i64 0)), none⟩])
  (.seq (.seq (.region false [⟨(some 10), .mv (.tmp 0), none⟩,
       ⟨(some 11), .len .slice (.tmp 10), none⟩,
       ⟨(some 12), .mv (.tmp 1), none⟩,
       ⟨(some 13), .bin .gtr .prim (.tmp 11) (.tmp 12), none⟩])
    (.cond (.tmp 13) (.seq (.region false [⟨(some 6), .mv (.const (.int .i64 6)), none⟩])
      (.ret))
     (.skip)))
   (.seq (.seq (.region false [⟨(some 14), .mv (.tmp 0), none⟩,
        ⟨(some 15), .len .slice (.tmp 14), none⟩,
        ⟨(some 16), .mv (.const (.int .i64 0)), none⟩])
     (.block 0 (c_model_each_api_Routine__l0)))
    c_model_each_api_Routine__j1))
def a_model_each_api_Routine_ : AFn := ⟨27, [.tmp 6], c_model_each_api_Routine_, false⟩
theorem t_model_each_api_Routine_ : cFn Tryz.prog takesW Tryz.f80 = some a_model_each_api_Routine_ := by kernel_rfl
theorem n_model_each_api_Routine_ : (Tryz.f80.name == "runtime.NumGoroutine") = false := by kernel_rfl
/-- simulator/model.site$12$1 -/
def c_model_site_12_1 : ACode :=
  .seq (.region false [⟨(some 2), .box 105 5 (.tmp 0), none⟩,
     ⟨(some 3), .mv (.const (.int .i64 0)), none⟩])
  (.seq (.region false [⟨(some 4), .lda 13 (.tmp 1), none⟩,
      ⟨(some 5), .lda 5 (.tmp 2), none⟩,
      ⟨(some 6), .call (.const (.fn 86 [] [])) [(.inr (.tmp 4)), (.inr (.tmp 5))], none⟩,
      ⟨(some 3), .take 6, none⟩])
   (.ret))
def a_model_site_12_1 : AFn := ⟨7, [.tmp 3], c_model_site_12_1, false⟩
theorem t_model_site_12_1 : cFn Tryz.prog takesW Tryz.f85 = some a_model_site_12_1 := by kernel_rfl
theorem n_model_site_12_1 : (Tryz.f85.name == "runtime.NumGoroutine") = false := by kernel_rfl
def c_model_each_api_Start__l0b : ACode :=
  .seq (.region false [⟨(some 17), .bin .lss .prim (.tmp 16) (.tmp 15), none⟩])
  (.seq (.cond (.tmp 17) (.skip)
    (.exit 0))
   (.seq (.block 1 (.seq (.region false [⟨(some 18), .ia (.slice 5) (.tmp 14) (.tmp 16), none⟩,
         ⟨(some 19), .lda 5 (.tmp 18), none⟩,
         ⟨(some 8), .mk 105 [(.str []), (.own 1 []), (.int .i64 0), (.int .i64 0), (.int .i64 0)], none⟩,
         ⟨none, .st 5 (.tmp 8) (.tmp 19), none⟩])
      (.seq (.region false [⟨(some 20), .mv (.tmp 2), none⟩,
          ⟨(some 21), .lda 5 (.tmp 8), none⟩,
          ⟨(some 22), .call (.tmp 20) [(.inr (.tmp 21))], none⟩,
          ⟨(some 9), .take 22, none⟩])
       (.seq (.region false [⟨(some 23), .mv (.tmp 9), none⟩,
           ⟨(some 24), .bin .neq .prim (.tmp 23) (.const (.int .i64 0)), none⟩])
        (.cond (.tmp 24) (.seq (.region false [⟨(some 25), .take 9, none⟩,
             ⟨(some 6), .take 25, none⟩])
          (.ret))
         (.skip))))))
    (.region false [⟨(some 26), .bin .add .prim (.tmp 16) (.const (.int .i64 1)), none⟩,
       ⟨(some 16), .mv (.tmp 26), none⟩])))
def c_model_each_api_Start__l0 : ACode := .loop c_model_each_api_Start__l0b
def c_model_each_api_Start__j1 : ACode :=
  .seq (.region false [⟨(some 6), .mv (.const (.int .i64 0)), none⟩])
  (.ret)
/-- simulator/model.each[simulator/api.Start] -/
def c_model_each_api_Start_ : ACode :=
  .seq (.region false [⟨(some 6), .mv (.const (.int .i64 0)), none⟩])
  (.seq (.seq (.region false [⟨(some 10), .mv (.tmp 0), none⟩,
       ⟨(some 11), .len .slice (.tmp 10), none⟩,
       ⟨(some 12), .mv (.tmp 1), none⟩,
       ⟨(some 13), .bin .gtr .prim (.tmp 11) (.tmp 12), none⟩])
    (.cond (.tmp 13) (.seq (.region false [⟨(some 6), .mv (.const (.int .i64 6)), none⟩])
      (.ret))
     (.skip)))
   (.seq (.seq (.region false [⟨(some 14), .mv (.tmp 0), none⟩,
        ⟨(some 15), .len .slice (.tmp 14), none⟩,
        ⟨(some 16), .mv (.const (.int .i64 0)), none⟩])
     (.block 0 (c_model_each_api_Start__l0)))
    c_model_each_api_Start__j1))
def a_model_each_api_Start_ : AFn := ⟨27, [.tmp 6], c_model_each_api_Start_, false⟩
theorem t_model_each_api_Start_ : cFn Tryz.prog takesW Tryz.f84 = some a_model_each_api_Start_ := by kernel_rfl
theorem n_model_each_api_Start_ : (Tryz.f84.name == "runtime.NumGoroutine") = false := by kernel_rfl
/-- simulator/model.laws -/
def c_model_laws : ACode :=
  .seq (.region false [⟨(some 1), .box 42 13 (.tmp 0), none⟩,
     ⟨(some 2), .mv (.const (.int .i64 0)), none⟩])
  (.seq (.region false [⟨(some 4), .mkmap, none⟩,
      ⟨(some 3), .mk 60 [.nilm], none⟩,
      ⟨none, .stt (.tmp 3) 4, none⟩])
   (.seq (.region false [⟨(some 5), .fa 12 (.tmp 1), none⟩,
       ⟨(some 6), .ldc (.tmp 5), none⟩,
       ⟨(some 7), .mkfn 133 [] [(.tmp 3), (.tmp 1)], none⟩,
       ⟨(some 8), .call (.const (.fn 132 [] [])) [(.inr (.tmp 6)), (.inr (.const (.int .i64 32))), (.inr (.tmp 7))], none⟩,
       ⟨(some 2), .take 8, none⟩])
    (.ret)))
def a_model_laws : AFn := ⟨9, [.tmp 2], c_model_laws, false⟩
theorem t_model_laws : cFn Tryz.prog takesW Tryz.f88 = some a_model_laws := by kernel_rfl
theorem n_model_laws : (Tryz.f88.name == "runtime.NumGoroutine") = false := by kernel_rfl
def c_slices_EqualFunc_Lapi_Stmt_Lapi_Stmt_api_Stmt_api_Stmt__l0b : ACode :=
  .seq (.region false [⟨(some 18), .bin .lss .prim (.tmp 17) (.tmp 16), none⟩])
  (.seq (.cond (.tmp 18) (.skip)
    (.exit 0))
   (.seq (.block 1 (.seq (.region false [⟨(some 19), .mv (.tmp 17), none⟩,
         ⟨(some 20), .ia (.slice 21) (.tmp 15) (.tmp 17), none⟩,
         ⟨(some 21), .lda 21 (.tmp 20), none⟩,
         ⟨(some 8), .mk 181 [(.int .i64 0), (.str []), (.str []), (.int .i64 0), (.str []), (.int .i64 0), (.own 4 []), (.int .i64 0), (.str []), (.int .i64 0), (.own 4 []), (.own 4 []), (.int .i64 0), (.int .i64 0), (.int .i64 0), (.int .i64 0), (.own 1 []), (.own 1 []), (.bool false), (.own 21 []), (.own 21 [])], none⟩,
         ⟨(some 7), .take 19, none⟩,
         ⟨none, .st 21 (.tmp 8) (.tmp 21), none⟩])
      (.seq (.region false [⟨(some 22), .mv (.tmp 1), none⟩,
          ⟨(some 23), .mv (.tmp 7), none⟩,
          ⟨(some 24), .ia (.slice 21) (.tmp 22) (.tmp 23), none⟩,
          ⟨(some 25), .lda 21 (.tmp 24), none⟩,
          ⟨(some 9), .mk 181 [(.int .i64 0), (.str []), (.str []), (.int .i64 0), (.str []), (.int .i64 0), (.own 4 []), (.int .i64 0), (.str []), (.int .i64 0), (.own 4 []), (.own 4 []), (.int .i64 0), (.int .i64 0), (.int .i64 0), (.int .i64 0), (.own 1 []), (.own 1 []), (.bool false), (.own 21 []), (.own 21 [])], none⟩,
          ⟨none, .st 21 (.tmp 9) (.tmp 25), none⟩])
       (.seq (.region false [⟨(some 26), .mv (.tmp 2), none⟩,
           ⟨(some 27), .lda 21 (.tmp 8), none⟩,
           ⟨(some 28), .lda 21 (.tmp 9), none⟩,
           ⟨(some 29), .call (.tmp 26) [(.inr (.tmp 27)), (.inr (.tmp 28))], none⟩,
           ⟨(some 30), .un .not (.tmp 29), none⟩])
        (.cond (.tmp 30) (.seq (.region false [⟨(some 6), .mv (.const (.bool false)), none⟩])
          (.ret))
         (.skip))))))
    (.region false [⟨(some 31), .bin .add .prim (.tmp 17) (.const (.int .i64 1)), none⟩,
       ⟨(some 17), .mv (.tmp 31), none⟩])))
def c_slices_EqualFunc_Lapi_Stmt_Lapi_Stmt_api_Stmt_api_Stmt__l0 : ACode := .loop c_slices_EqualFunc_Lapi_Stmt_Lapi_Stmt_api_Stmt_api_Stmt__l0b
def c_slices_EqualFunc_Lapi_Stmt_Lapi_Stmt_api_Stmt_api_Stmt__j1 : ACode :=
  .seq (.region false [⟨(some 6), .mv (.const (.bool true)), none⟩])
  (.ret)
/-- slices.EqualFunc[[]simulator/api.Stmt,[]simulator/api.Stmt,simulator/api.Stmt,simulator/api.Stmt] -/
def c_slices_EqualFunc_Lapi_Stmt_Lapi_Stmt_api_Stmt_api_Stmt_ : ACode :=
  .seq (.region false [⟨(some 6), .mv (.const (.bool false)), none⟩])
  (.seq (.seq (.region false [⟨(some 10), .mv (.tmp 0), none⟩,
       ⟨(some 11), .len .slice (.tmp 10), none⟩,
       ⟨(some 12), .mv (.tmp 1), none⟩,
       ⟨(some 13), .len .slice (.tmp 12), none⟩,
       ⟨(some 14), .bin .neq .prim (.tmp 11) (.tmp 13), none⟩])
    (.cond (.tmp 14) (.seq (.region false [⟨(some 6), .mv (.const (.bool false)), none⟩])
      (.ret))
     (.skip)))
   (.seq (.seq (.region false [⟨(some 15), .mv (.tmp 0), none⟩,
        ⟨(some 16), .len .slice (.tmp 15), none⟩,
        ⟨(some 17), .mv (.const (.int .i64 0)), none⟩])
     (.block 0 (c_slices_EqualFunc_Lapi_Stmt_Lapi_Stmt_api_Stmt_api_Stmt__l0)))
    c_slices_EqualFunc_Lapi_Stmt_Lapi_Stmt_api_Stmt_api_Stmt__j1))
def a_slices_EqualFunc_Lapi_Stmt_Lapi_Stmt_api_Stmt_api_Stmt_ : AFn := ⟨32, [.tmp 6], c_slices_EqualFunc_Lapi_Stmt_Lapi_Stmt_api_Stmt_api_Stmt_, false⟩
theorem t_slices_EqualFunc_Lapi_Stmt_Lapi_Stmt_api_Stmt_api_Stmt_ : cFn Tryz.prog takesW Tryz.f162 = some a_slices_EqualFunc_Lapi_Stmt_Lapi_Stmt_api_Stmt_api_Stmt_ := by kernel_rfl
theorem n_slices_EqualFunc_Lapi_Stmt_Lapi_Stmt_api_Stmt_api_Stmt_ : (Tryz.f162.name == "runtime.NumGoroutine") = false := by kernel_rfl
/-- simulator/stmt.same -/
def c_stmt_same : ACode :=
  .seq (.region false [⟨(some 2), .box 181 21 (.tmp 0), none⟩,
     ⟨(some 3), .box 181 21 (.tmp 1), none⟩,
     ⟨(some 4), .mv (.const (.bool false)), none⟩])
  (.seq (.region false [⟨(some 5), .fa 0 (.tmp 2), none⟩,
      ⟨(some 6), .ldc (.tmp 5), none⟩,
      ⟨(some 7), .fa 0 (.tmp 3), none⟩,
      ⟨(some 8), .ldc (.tmp 7), none⟩,
      ⟨(some 9), .bin .eql .prim (.tmp 6) (.tmp 8), none⟩,
      ⟨(some 10), .mv (.tmp 9), none⟩,
      ⟨(some 11), .fa 1 (.tmp 2), (some (10, true))⟩,
      ⟨(some 12), .ldc (.tmp 11), (some (10, true))⟩,
      ⟨(some 13), .fa 1 (.tmp 3), (some (10, true))⟩,
      ⟨(some 14), .ldc (.tmp 13), (some (10, true))⟩,
      ⟨(some 15), .bin .eql .prim (.tmp 12) (.tmp 14), (some (10, true))⟩,
      ⟨(some 16), .pick (.tmp 10) (.tmp 15) (.const (.bool false)), none⟩,
      ⟨(some 17), .mv (.tmp 16), none⟩,
      ⟨(some 18), .fa 2 (.tmp 2), (some (17, true))⟩,
      ⟨(some 19), .ldc (.tmp 18), (some (17, true))⟩,
      ⟨(some 20), .fa 2 (.tmp 3), (some (17, true))⟩,
      ⟨(some 21), .ldc (.tmp 20), (some (17, true))⟩,
      ⟨(some 22), .bin .eql .prim (.tmp 19) (.tmp 21), (some (17, true))⟩,
      ⟨(some 23), .pick (.tmp 17) (.tmp 22) (.const (.bool false)), none⟩,
      ⟨(some 24), .mv (.tmp 23), none⟩,
      ⟨(some 25), .fa 18 (.tmp 2), (some (24, true))⟩,
      ⟨(some 26), .ldc (.tmp 25), (some (24, true))⟩,
      ⟨(some 27), .fa 18 (.tmp 3), (some (24, true))⟩,
      ⟨(some 28), .ldc (.tmp 27), (some (24, true))⟩,
      ⟨(some 29), .bin .eql .bool (.tmp 26) (.tmp 28), (some (24, true))⟩,
      ⟨(some 30), .pick (.tmp 24) (.tmp 29) (.const (.bool false)), none⟩,
      ⟨(some 31), .mv (.tmp 30), none⟩,
      ⟨(some 32), .fa 3 (.tmp 2), (some (31, true))⟩,
      ⟨(some 33), .lda 4 (.tmp 32), (some (31, true))⟩,
      ⟨(some 34), .fa 3 (.tmp 3), (some (31, true))⟩,
      ⟨(some 35), .lda 4 (.tmp 34), (some (31, true))⟩,
      ⟨(some 36), .call (.const (.fn 177 [] [])) [(.inr (.tmp 33)), (.inr (.tmp 35))], (some (31, true))⟩,
      ⟨(some 37), .pick (.tmp 31) (.tmp 36) (.const (.bool false)), none⟩,
      ⟨(some 38), .mv (.tmp 37), none⟩,
      ⟨(some 39), .fa 7 (.tmp 2), (some (38, true))⟩,
      ⟨(some 40), .lda 4 (.tmp 39), (some (38, true))⟩,
      ⟨(some 41), .fa 7 (.tmp 3), (some (38, true))⟩,
      ⟨(some 42), .lda 4 (.tmp 41), (some (38, true))⟩,
      ⟨(some 43), .call (.const (.fn 177 [] [])) [(.inr (.tmp 40)), (.inr (.tmp 42))], (some (38, true))⟩,
      ⟨(some 44), .pick (.tmp 38) (.tmp 43) (.const (.bool false)), none⟩,
      ⟨(some 45), .mv (.tmp 44), none⟩,
      ⟨(some 46), .fa 12 (.tmp 2), (some (45, true))⟩,
      ⟨(some 47), .lda 6 (.tmp 46), (some (45, true))⟩,
      ⟨(some 48), .fa 12 (.tmp 3), (some (45, true))⟩,
      ⟨(some 49), .lda 6 (.tmp 48), (some (45, true))⟩,
      ⟨(some 50), .call (.const (.fn 127 [] [])) [(.inr (.tmp 47)), (.inr (.tmp 49))], (some (45, true))⟩,
      ⟨(some 51), .pick (.tmp 45) (.tmp 50) (.const (.bool false)), none⟩,
      ⟨(some 52), .mv (.tmp 51), none⟩,
      ⟨(some 53), .fa 11 (.tmp 2), (some (52, true))⟩,
      ⟨(some 54), .ldc (.tmp 53), (some (52, true))⟩,
      ⟨(some 55), .fa 11 (.tmp 3), (some (52, true))⟩,
      ⟨(some 56), .ldc (.tmp 55), (some (52, true))⟩,
      ⟨(some 57), .call (.const (.fn 178 [] [])) [(.inr (.tmp 54)), (.inr (.tmp 56)), (.inr (.const (.fn 177 [] [])))], (some (52, true))⟩,
      ⟨(some 58), .pick (.tmp 52) (.tmp 57) (.const (.bool false)), none⟩,
      ⟨(some 59), .mv (.tmp 58), none⟩,
      ⟨(some 60), .fa 19 (.tmp 2), (some (59, true))⟩,
      ⟨(some 61), .ldc (.tmp 60), (some (59, true))⟩,
      ⟨(some 62), .fa 19 (.tmp 3), (some (59, true))⟩,
      ⟨(some 63), .ldc (.tmp 62), (some (59, true))⟩,
      ⟨(some 64), .call (.const (.fn 145 [] [])) [(.inr (.tmp 61)), (.inr (.tmp 63))], (some (59, true))⟩,
      ⟨(some 65), .pick (.tmp 59) (.tmp 64) (.const (.bool false)), none⟩,
      ⟨(some 66), .mv (.tmp 65), none⟩,
      ⟨(some 67), .fa 20 (.tmp 2), (some (66, true))⟩,
      ⟨(some 68), .ldc (.tmp 67), (some (66, true))⟩,
      ⟨(some 69), .fa 20 (.tmp 3), (some (66, true))⟩,
      ⟨(some 70), .ldc (.tmp 69), (some (66, true))⟩,
      ⟨(some 71), .call (.const (.fn 145 [] [])) [(.inr (.tmp 68)), (.inr (.tmp 70))], (some (66, true))⟩,
      ⟨(some 72), .pick (.tmp 66) (.tmp 71) (.const (.bool false)), none⟩,
      ⟨(some 4), .take 72, none⟩])
   (.ret))
def a_stmt_same : AFn := ⟨73, [.tmp 4], c_stmt_same, false⟩
theorem t_stmt_same : cFn Tryz.prog takesW Tryz.f163 = some a_stmt_same := by kernel_rfl
theorem n_stmt_same : (Tryz.f163.name == "runtime.NumGoroutine") = false := by kernel_rfl
def c_model_schedule_j1 : ACode :=
  .cond (.tmp 30) (.seq (.region false [⟨(some 2), .mv (.const (.int .i64 2)), none⟩])
   (.ret))
  (.seq (.region true [⟨(some 43), .mv (.tmp 3), none⟩,
      ⟨(some 44), .bin .gtr .prim (.tmp 43) (.const (.int .i64 0)), none⟩,
      ⟨(some 45), .mv (.tmp 44), none⟩,
      ⟨(some 46), .fa 0 (.tmp 4), (some (45, true))⟩,
      ⟨(some 47), .ldc (.tmp 46), (some (45, true))⟩,
      ⟨(some 48), .fa 2 (.tmp 1), (some (45, true))⟩,
      ⟨(some 49), .ldc (.tmp 48), (some (45, true))⟩,
      ⟨(some 50), .mv (.tmp 3), (some (45, true))⟩,
      ⟨(some 51), .bin .sub .prim (.tmp 50) (.const (.int .i64 1)), (some (45, true))⟩,
      ⟨(some 52), .ia (.slice 2) (.tmp 49) (.tmp 51), (some (45, true))⟩,
      ⟨(some 53), .fa 0 (.tmp 52), (some (45, true))⟩,
      ⟨(some 54), .ldc (.tmp 53), (some (45, true))⟩,
      ⟨(some 55), .bin .leq .prim (.tmp 47) (.tmp 54), (some (45, true))⟩,
      ⟨(some 56), .pick (.tmp 45) (.tmp 55) (.const (.bool false)), none⟩,
      ⟨(some 42), .mv (.tmp 56), none⟩])
   (.cond (.tmp 42) (.seq (.region false [⟨(some 2), .mv (.const (.int .i64 12)), none⟩])
     (.ret))
    (.skip)))
def c_model_schedule_j2 : ACode :=
  .region false [⟨(some 57), .bin .add .prim (.tmp 25) (.const (.int .i64 1)), none⟩,
    ⟨(some 25), .mv (.tmp 57), none⟩]
def c_model_schedule_l0b : ACode :=
  .seq (.region false [⟨(some 26), .bin .lss .prim (.tmp 25) (.tmp 24), none⟩])
  (.seq (.cond (.tmp 26) (.skip)
    (.exit 1))
   (.seq (.block 2 (.seq (.region false [⟨(some 27), .mv (.tmp 25), none⟩,
         ⟨(some 28), .ia (.slice 2) (.tmp 23) (.tmp 25), none⟩,
         ⟨(some 29), .lda 2 (.tmp 28), none⟩,
         ⟨(some 4), .mk 159 [(.int .i64 0), (.int .i64 0)], none⟩,
         ⟨(some 3), .take 27, none⟩,
         ⟨none, .st 2 (.tmp 4) (.tmp 29), none⟩])
      (.block 3 (.seq (.seq (.region false [⟨(some 31), .fa 0 (.tmp 4), none⟩,
            ⟨(some 32), .ldc (.tmp 31), none⟩,
            ⟨(some 33), .fa 3 (.tmp 1), none⟩,
            ⟨(some 34), .ldc (.tmp 33), none⟩,
            ⟨(some 35), .bin .sub .prim (.tmp 34) (.const (.int .i64 1)), none⟩,
            ⟨(some 36), .call (.const (.fn 65 [] [])) [(.inr (.tmp 32)), (.inr (.const (.int .i64 0))), (.inr (.tmp 35))], none⟩,
            ⟨(some 37), .un .not (.tmp 36), none⟩,
            ⟨(some 30), .take 37, none⟩])
         (.cond (.tmp 30) (.skip)
          (.region false [⟨(some 38), .fa 1 (.tmp 4), none⟩,
             ⟨(some 39), .ldc (.tmp 38), none⟩,
             ⟨(some 40), .call (.const (.fn 65 [] [])) [(.inr (.tmp 39)), (.inr (.const (.int .i64 0))), (.inr (.const (.int .i64 1000)))], none⟩,
             ⟨(some 41), .un .not (.tmp 40), none⟩,
             ⟨(some 30), .take 41, none⟩])))
        c_model_schedule_j1))))
    c_model_schedule_j2))
def c_model_schedule_l0 : ACode := .loop c_model_schedule_l0b
def c_model_schedule_j3 : ACode :=
  .seq (.region false [⟨(some 2), .mv (.const (.int .i64 0)), none⟩])
  (.ret)
/-- simulator/model.schedule -/
def c_model_schedule : ACode :=
  .seq (.region false [⟨(some 1), .box 92 17 (.tmp 0), none⟩,
     ⟨(some 2), .mv (.const (.int .i64 0)), none⟩])
  (.seq (.seq (.region false [⟨(some 5), .fa 2 (.tmp 1), none⟩,
       ⟨(some 6), .ldc (.tmp 5), none⟩,
       ⟨(some 7), .len .slice (.tmp 6), none⟩,
       ⟨(some 8), .bin .eql .prim (.tmp 7) (.const (.int .i64 0)), none⟩])
    (.cond (.tmp 8) (.seq (.seq (.region false [⟨(some 9), .fa 3 (.tmp 1), none⟩,
          ⟨(some 10), .ldc (.tmp 9), none⟩,
          ⟨(some 11), .bin .neq .prim (.tmp 10) (.const (.int .i64 0)), none⟩])
       (.cond (.tmp 11) (.seq (.region false [⟨(some 2), .mv (.const (.int .i64 1)), none⟩])
         (.ret))
        (.skip)))
      (.seq (.region false [⟨(some 2), .mv (.const (.int .i64 0)), none⟩])
       (.ret)))
     (.skip)))
   (.seq (.block 0 (.seq (.region false [⟨(some 13), .fa 2 (.tmp 1), none⟩,
         ⟨(some 14), .ldc (.tmp 13), none⟩,
         ⟨(some 15), .len .slice (.tmp 14), none⟩,
         ⟨(some 16), .bin .gtr .prim (.tmp 15) (.const (.int .i64 20)), none⟩,
         ⟨(some 12), .take 16, none⟩])
      (.cond (.tmp 12) (.seq (.region false [⟨(some 2), .mv (.const (.int .i64 6)), none⟩])
        (.ret))
       (.seq (.region false [⟨(some 18), .fa 3 (.tmp 1), none⟩,
           ⟨(some 19), .ldc (.tmp 18), none⟩,
           ⟨(some 20), .call (.const (.fn 65 [] [])) [(.inr (.tmp 19)), (.inr (.const (.int .i64 1))), (.inr (.const (.int .i64 1000000000)))], none⟩,
           ⟨(some 21), .un .not (.tmp 20), none⟩,
           ⟨(some 17), .take 21, none⟩])
        (.cond (.tmp 17) (.seq (.region false [⟨(some 2), .mv (.const (.int .i64 2)), none⟩])
          (.ret))
         (.skip))))))
    (.seq (.seq (.region false [⟨(some 22), .fa 2 (.tmp 1), none⟩,
         ⟨(some 23), .ldc (.tmp 22), none⟩,
         ⟨(some 24), .len .slice (.tmp 23), none⟩,
         ⟨(some 25), .mv (.const (.int .i64 0)), none⟩])
      (.block 1 (c_model_schedule_l0)))
     c_model_schedule_j3)))
def a_model_schedule : AFn := ⟨58, [.tmp 2], c_model_schedule, false⟩
theorem t_model_schedule : cFn Tryz.prog takesW Tryz.f66 = some a_model_schedule := by kernel_rfl
theorem n_model_schedule : (Tryz.f66.name == "runtime.NumGoroutine") = false := by kernel_rfl
/-- simulator/model.failures -/
def c_model_failures : ACode :=
  .seq (.region false [⟨(some 2), .box 42 13 (.tmp 0), none⟩,
     ⟨(some 3), .box 90 13 (.tmp 1), none⟩,
     ⟨(some 4), .mv (.const (.int .i64 0)), none⟩])
  (.seq (.block 0 (.seq (.region false [⟨(some 7), .fa 0 (.tmp 3), none⟩,
        ⟨(some 8), .ldc (.tmp 7), none⟩,
        ⟨(some 9), .bin .eql .prim (.tmp 8) (.const (.str [])), none⟩,
        ⟨(some 10), .mv (.tmp 9), none⟩,
        ⟨(some 11), .fa 1 (.tmp 3), (some (10, true))⟩,
        ⟨(some 12), .lda 6 (.tmp 11), (some (10, true))⟩,
        ⟨(some 13), .build [(.int .i64 0), (.int .i64 0), (.int .i64 0), (.int .i64 0), (.own 1 []), (.own 1 [])] [], (some (10, true))⟩,
        ⟨(some 14), .call (.const (.fn 127 [] [])) [(.inr (.tmp 12)), (.inr (.tmp 13))], (some (10, true))⟩,
        ⟨(some 15), .un .not (.tmp 14), (some (10, true))⟩,
        ⟨(some 16), .mv (.tmp 15), (some (10, true))⟩,
        ⟨(some 17), .fa 7 (.tmp 3), (some (16, false))⟩,
        ⟨(some 18), .lda 6 (.tmp 17), (some (16, false))⟩,
        ⟨(some 19), .build [(.int .i64 0), (.int .i64 0), (.int .i64 0), (.int .i64 0), (.own 1 []), (.own 1 [])] [], (some (16, false))⟩,
        ⟨(some 20), .call (.const (.fn 127 [] [])) [(.inr (.tmp 18)), (.inr (.tmp 19))], (some (16, false))⟩,
        ⟨(some 21), .un .not (.tmp 20), (some (16, false))⟩,
        ⟨(some 22), .pick (.tmp 16) (.const (.bool true)) (.tmp 21), (some (10, true))⟩,
        ⟨(some 23), .pick (.tmp 10) (.tmp 22) (.const (.bool false)), none⟩,
        ⟨(some 6), .take 23, none⟩])
     (.cond (.tmp 6) (.seq (.region false [⟨(some 4), .mv (.const (.int .i64 1)), none⟩])
       (.ret))
      (.seq (.region false [⟨(some 25), .fa 0 (.tmp 3), none⟩,
          ⟨(some 26), .ldc (.tmp 25), none⟩,
          ⟨(some 27), .bin .eql .prim (.tmp 26) (.const (.str [])), none⟩,
          ⟨(some 24), .take 27, none⟩])
       (.cond (.tmp 24) (.seq (.region false [⟨(some 4), .mv (.const (.int .i64 0)), none⟩])
         (.ret))
        (.seq (.region false [⟨(some 29), .fa 6 (.tmp 2), none⟩,
            ⟨(some 30), .ldc (.tmp 29), none⟩,
            ⟨(some 31), .fa 0 (.tmp 3), none⟩,
            ⟨(some 32), .ldc (.tmp 31), none⟩,
            ⟨(some 33), .call (.const (.fn 128 [] [])) [(.inr (.tmp 30)), (.inr (.tmp 32))], none⟩,
            ⟨(some 34), .un .not (.tmp 33), none⟩,
            ⟨(some 28), .take 34, none⟩])
         (.cond (.tmp 28) (.seq (.region false [⟨(some 4), .mv (.const (.int .i64 5)), none⟩])
           (.ret))
          (.skip))))))))
   (.seq (.seq (.region false [⟨(some 35), .fa 1 (.tmp 3), none⟩,
        ⟨(some 36), .lda 6 (.tmp 35), none⟩,
        ⟨(some 37), .call (.const (.fn 129 [] [])) [(.inr (.tmp 36))], none⟩,
        ⟨(some 5), .take 37, none⟩])
     (.seq (.region false [⟨(some 38), .mv (.tmp 5), none⟩,
         ⟨(some 39), .bin .neq .prim (.tmp 38) (.const (.int .i64 0)), none⟩])
      (.cond (.tmp 39) (.seq (.region false [⟨(some 40), .take 5, none⟩,
           ⟨(some 4), .take 40, none⟩])
        (.ret))
       (.skip))))
    (.seq (.region false [⟨(some 41), .fa 7 (.tmp 3), none⟩,
        ⟨(some 42), .lda 6 (.tmp 41), none⟩,
        ⟨(some 43), .call (.const (.fn 129 [] [])) [(.inr (.tmp 42))], none⟩,
        ⟨(some 4), .take 43, none⟩])
     (.ret))))
def a_model_failures : AFn := ⟨44, [.tmp 4], c_model_failures, false⟩
theorem t_model_failures : cFn Tryz.prog takesW Tryz.f67 = some a_model_failures := by kernel_rfl
theorem n_model_failures : (Tryz.f67.name == "runtime.NumGoroutine") = false := by kernel_rfl
def c_model_routine_l0b : ACode :=
  .seq (.region false [⟨(some 30), .bin .lss .prim (.tmp 29) (.tmp 28), none⟩])
  (.seq (.cond (.tmp 30) (.skip)
    (.exit 0))
   (.seq (.block 1 (.seq (.region false [⟨(some 31), .ia (.slice 2) (.tmp 27) (.tmp 29), none⟩,
         ⟨(some 32), .lda 2 (.tmp 31), none⟩,
         ⟨(some 5), .mk 103 [(.str []), (.int .i64 0)], none⟩,
         ⟨none, .st 2 (.tmp 5) (.tmp 32), none⟩])
      (.seq (.seq (.region false [⟨(some 33), .mv (.tmp 3), none⟩,
           ⟨(some 34), .fa 0 (.tmp 5), none⟩,
           ⟨(some 35), .ldc (.tmp 34), none⟩,
           ⟨(some 36), .call (.const (.fn 30 [] [])) [(.inr (.tmp 33)), (.inr (.tmp 35))], none⟩,
           ⟨(some 6), .take 36, none⟩])
        (.seq (.region false [⟨(some 37), .mv (.tmp 6), none⟩,
            ⟨(some 38), .bin .neq .prim (.tmp 37) (.const (.int .i64 0)), none⟩])
         (.cond (.tmp 38) (.seq (.region false [⟨(some 39), .take 6, none⟩,
              ⟨(some 2), .take 39, none⟩])
           (.ret))
          (.skip))))
       (.seq (.region false [⟨(some 40), .fa 1 (.tmp 5), none⟩,
           ⟨(some 41), .ldc (.tmp 40), none⟩,
           ⟨(some 42), .call (.const (.fn 125 [] [])) [(.inr (.tmp 41))], none⟩,
           ⟨(some 43), .un .not (.tmp 42), none⟩])
        (.cond (.tmp 43) (.seq (.region false [⟨(some 2), .mv (.const (.int .i64 1)), none⟩])
          (.ret))
         (.skip))))))
    (.region false [⟨(some 44), .bin .add .prim (.tmp 29) (.const (.int .i64 1)), none⟩,
       ⟨(some 29), .mv (.tmp 44), none⟩])))
def c_model_routine_l0 : ACode := .loop c_model_routine_l0b
def c_model_routine_j1 : ACode :=
  .seq (.region false [⟨(some 45), .fa 3 (.tmp 1), none⟩,
     ⟨(some 46), .ldc (.tmp 45), none⟩,
     ⟨(some 47), .call (.const (.fn 131 [] [])) [(.inr (.tmp 46))], none⟩,
     ⟨(some 2), .take 47, none⟩])
  (.ret)
/-- simulator/model.routine -/
def c_model_routine : ACode :=
  .seq (.region false [⟨(some 1), .box 79 4 (.tmp 0), none⟩,
     ⟨(some 2), .mv (.const (.int .i64 0)), none⟩])
  (.seq (.seq (.region false [⟨(some 7), .fa 1 (.tmp 1), none⟩,
       ⟨(some 8), .ldc (.tmp 7), none⟩,
       ⟨(some 9), .len .slice (.tmp 8), none⟩,
       ⟨(some 10), .bin .gtr .prim (.tmp 9) (.const (.int .i64 6)), none⟩,
       ⟨(some 11), .mv (.tmp 10), none⟩,
       ⟨(some 12), .fa 1 (.tmp 1), (some (11, false))⟩,
       ⟨(some 13), .ldc (.tmp 12), (some (11, false))⟩,
       ⟨(some 14), .len .slice (.tmp 13), (some (11, false))⟩,
       ⟨(some 15), .fa 2 (.tmp 1), (some (11, false))⟩,
       ⟨(some 16), .ldc (.tmp 15), (some (11, false))⟩,
       ⟨(some 17), .len .slice (.tmp 16), (some (11, false))⟩,
       ⟨(some 18), .bin .add .prim (.tmp 14) (.tmp 17), (some (11, false))⟩,
       ⟨(some 19), .bin .gtr .prim (.tmp 18) (.const (.int .i64 16)), (some (11, false))⟩,
       ⟨(some 20), .pick (.tmp 11) (.const (.bool true)) (.tmp 19), none⟩])
    (.cond (.tmp 20) (.seq (.region false [⟨(some 2), .mv (.const (.int .i64 6)), none⟩])
      (.ret))
     (.skip)))
   (.seq (.region false [⟨(some 21), .mkmap, none⟩,
       ⟨(some 3), .take 21, none⟩])
    (.seq (.seq (.region false [⟨(some 22), .fa 1 (.tmp 1), none⟩,
         ⟨(some 23), .ldc (.tmp 22), none⟩,
         ⟨(some 24), .fa 2 (.tmp 1), none⟩,
         ⟨(some 25), .ldc (.tmp 24), none⟩,
         ⟨(some 26), .lit 76 1 [(.tmp 23), (.tmp 25)], none⟩,
         ⟨(some 27), .call (.const (.fn 130 [] [])) [(.inr (.tmp 26))], none⟩,
         ⟨(some 28), .len .slice (.tmp 27), none⟩,
         ⟨(some 29), .mv (.const (.int .i64 0)), none⟩])
      (.block 0 (c_model_routine_l0)))
     c_model_routine_j1)))
def a_model_routine : AFn := ⟨48, [.tmp 2], c_model_routine, false⟩
theorem t_model_routine : cFn Tryz.prog takesW Tryz.f82 = some a_model_routine := by kernel_rfl
theorem n_model_routine : (Tryz.f82.name == "runtime.NumGoroutine") = false := by kernel_rfl
def c_model_start_l0b : ACode :=
  .seq (.region false [⟨(some 31), .bin .lss .prim (.tmp 30) (.tmp 29), none⟩])
  (.seq (.cond (.tmp 31) (.skip)
    (.exit 0))
   (.seq (.block 1 (.seq (.region false [⟨(some 32), .mv (.tmp 30), none⟩,
         ⟨(some 33), .ia (.slice 1) (.tmp 28) (.tmp 30), none⟩,
         ⟨(some 34), .ldc (.tmp 33), none⟩,
         ⟨(some 7), .take 32, none⟩,
         ⟨(some 8), .take 34, none⟩])
      (.seq (.region false [⟨(some 35), .mv (.tmp 6), none⟩,
          ⟨(some 36), .mv (.tmp 7), none⟩,
          ⟨(some 37), .ia (.slice 2) (.tmp 35) (.tmp 36), none⟩,
          ⟨(some 38), .fa 1 (.tmp 37), none⟩,
          ⟨(some 39), .ldc (.tmp 38), none⟩,
          ⟨(some 40), .mv (.tmp 8), none⟩,
          ⟨(some 41), .call (.const (.fn 126 [] [])) [(.inr (.tmp 39)), (.inr (.tmp 40))], none⟩,
          ⟨(some 42), .un .not (.tmp 41), none⟩])
       (.cond (.tmp 42) (.seq (.region false [⟨(some 4), .mv (.const (.int .i64 2)), none⟩])
         (.ret))
        (.skip)))))
    (.region false [⟨(some 43), .bin .add .prim (.tmp 30) (.const (.int .i64 1)), none⟩,
       ⟨(some 30), .mv (.tmp 43), none⟩])))
def c_model_start_l0 : ACode := .loop c_model_start_l0b
def c_model_start_j1 : ACode :=
  .seq (.seq (.region false [⟨(some 44), .fa 2 (.tmp 3), none⟩,
      ⟨(some 45), .ldc (.tmp 44), none⟩,
      ⟨(some 46), .call (.const (.fn 65 [] [])) [(.inr (.tmp 45)), (.inr (.const (.int .i64 0))), (.inr (.const (.int .i64 1000000000)))], none⟩,
      ⟨(some 47), .un .not (.tmp 46), none⟩,
      ⟨(some 48), .mv (.tmp 47), none⟩,
      ⟨(some 49), .fa 3 (.tmp 3), (some (48, false))⟩,
      ⟨(some 50), .ldc (.tmp 49), (some (48, false))⟩,
      ⟨(some 51), .call (.const (.fn 65 [] [])) [(.inr (.tmp 50)), (.inr (.const (.int .i64 0))), (.inr (.const (.int .i64 1000000000)))], (some (48, false))⟩,
      ⟨(some 52), .un .not (.tmp 51), (some (48, false))⟩,
      ⟨(some 53), .pick (.tmp 48) (.const (.bool true)) (.tmp 52), none⟩,
      ⟨(some 54), .mv (.tmp 53), none⟩,
      ⟨(some 55), .fa 4 (.tmp 3), (some (54, false))⟩,
      ⟨(some 56), .ldc (.tmp 55), (some (54, false))⟩,
      ⟨(some 57), .call (.const (.fn 65 [] [])) [(.inr (.tmp 56)), (.inr (.const (.int .i64 0))), (.inr (.const (.int .i64 1000000000)))], (some (54, false))⟩,
      ⟨(some 58), .un .not (.tmp 57), (some (54, false))⟩,
      ⟨(some 59), .pick (.tmp 54) (.const (.bool true)) (.tmp 58), none⟩,
      ⟨(some 60), .mv (.tmp 59), none⟩,
      ⟨(some 61), .fa 3 (.tmp 3), (some (60, false))⟩,
      ⟨(some 62), .ldc (.tmp 61), (some (60, false))⟩,
      ⟨(some 63), .bin .eql .prim (.tmp 62) (.const (.int .i64 0)), (some (60, false))⟩,
      ⟨(some 64), .mv (.tmp 63), (some (60, false))⟩,
      ⟨(some 65), .fa 4 (.tmp 3), (some (64, true))⟩,
      ⟨(some 66), .ldc (.tmp 65), (some (64, true))⟩,
      ⟨(some 67), .bin .neq .prim (.tmp 66) (.const (.int .i64 0)), (some (64, true))⟩,
      ⟨(some 68), .pick (.tmp 64) (.tmp 67) (.const (.bool false)), (some (60, false))⟩,
      ⟨(some 69), .pick (.tmp 60) (.const (.bool true)) (.tmp 68), none⟩])
   (.cond (.tmp 69) (.seq (.region false [⟨(some 4), .mv (.const (.int .i64 2)), none⟩])
     (.ret))
    (.skip)))
  (.seq (.region false [⟨(some 4), .mv (.const (.int .i64 0)), none⟩])
   (.ret))
/-- simulator/model.start -/
def c_model_start : ACode :=
  .seq (.region false [⟨(some 2), .box 42 13 (.tmp 0), none⟩,
     ⟨(some 3), .box 105 5 (.tmp 1), none⟩,
     ⟨(some 4), .mv (.const (.int .i64 0)), none⟩])
  (.seq (.region false [⟨(some 9), .lda 13 (.tmp 2), none⟩,
      ⟨(some 10), .fa 0 (.tmp 3), none⟩,
      ⟨(some 11), .ldc (.tmp 10), none⟩,
      ⟨(some 12), .call (.const (.fn 16 [] [])) [(.inr (.tmp 9)), (.inr (.tmp 11))], none⟩,
      ⟨(some 5), .take 12, none⟩])
   (.seq (.seq (.region false [⟨(some 13), .mv (.tmp 5), none⟩,
        ⟨(some 14), .bin .lss .prim (.tmp 13) (.const (.int .i64 0)), none⟩])
     (.cond (.tmp 14) (.seq (.region false [⟨(some 4), .mv (.const (.int .i64 5)), none⟩])
       (.ret))
      (.skip)))
    (.seq (.region false [⟨(some 15), .fa 10 (.tmp 2), none⟩,
        ⟨(some 16), .ldc (.tmp 15), none⟩,
        ⟨(some 17), .mv (.tmp 5), none⟩,
        ⟨(some 18), .ia (.slice 4) (.tmp 16) (.tmp 17), none⟩,
        ⟨(some 19), .fa 1 (.tmp 18), none⟩,
        ⟨(some 20), .ldc (.tmp 19), none⟩,
        ⟨(some 6), .take 20, none⟩])
     (.seq (.seq (.region false [⟨(some 21), .fa 1 (.tmp 3), none⟩,
          ⟨(some 22), .ldc (.tmp 21), none⟩,
          ⟨(some 23), .len .slice (.tmp 22), none⟩,
          ⟨(some 24), .mv (.tmp 6), none⟩,
          ⟨(some 25), .len .slice (.tmp 24), none⟩,
          ⟨(some 26), .bin .neq .prim (.tmp 23) (.tmp 25), none⟩])
       (.cond (.tmp 26) (.seq (.region false [⟨(some 4), .mv (.const (.int .i64 8)), none⟩])
         (.ret))
        (.skip)))
      (.seq (.seq (.region false [⟨(some 27), .fa 1 (.tmp 3), none⟩,
           ⟨(some 28), .ldc (.tmp 27), none⟩,
           ⟨(some 29), .len .slice (.tmp 28), none⟩,
           ⟨(some 30), .mv (.const (.int .i64 0)), none⟩])
        (.block 0 (c_model_start_l0)))
       c_model_start_j1)))))
def a_model_start : AFn := ⟨70, [.tmp 4], c_model_start, false⟩
theorem t_model_start : cFn Tryz.prog takesW Tryz.f86 = some a_model_start := by kernel_rfl
theorem n_model_start : (Tryz.f86.name == "runtime.NumGoroutine") = false := by kernel_rfl
/-- simulator/model.laws$1 -/
def c_model_laws_1 : ACode :=
  .seq (.region false [⟨(some 3), .box 57 3 (.tmp 0), none⟩,
     ⟨(some 4), .mv (.const (.int .i64 0)), none⟩])
  (.seq (.seq (.region false [⟨(some 7), .ldc (.tmp 1), none⟩,
       ⟨(some 8), .fa 0 (.tmp 3), none⟩,
       ⟨(some 9), .ldc (.tmp 8), none⟩,
       ⟨(some 10), .call (.const (.fn 30 [] [])) [(.inr (.tmp 7)), (.inr (.tmp 9))], none⟩,
       ⟨(some 5), .take 10, none⟩])
    (.seq (.region false [⟨(some 11), .mv (.tmp 5), none⟩,
        ⟨(some 12), .bin .neq .prim (.tmp 11) (.const (.int .i64 0)), none⟩])
     (.cond (.tmp 12) (.seq (.region false [⟨(some 13), .take 5, none⟩,
          ⟨(some 4), .take 13, none⟩])
       (.ret))
      (.skip))))
   (.seq (.seq (.region false [⟨(some 14), .fa 1 (.tmp 3), none⟩,
        ⟨(some 15), .ldc (.tmp 14), none⟩,
        ⟨(some 16), .len .slice (.tmp 15), none⟩,
        ⟨(some 17), .bin .eql .prim (.tmp 16) (.const (.int .i64 0)), none⟩])
     (.cond (.tmp 17) (.seq (.region false [⟨(some 4), .mv (.const (.int .i64 7)), none⟩])
       (.ret))
      (.skip)))
    (.seq (.seq (.region false [⟨(some 18), .fa 1 (.tmp 3), none⟩,
         ⟨(some 19), .ldc (.tmp 18), none⟩,
         ⟨(some 20), .mkfn 135 [] [(.tmp 2)], none⟩,
         ⟨(some 21), .call (.const (.fn 134 [] [])) [(.inr (.tmp 19)), (.inr (.const (.int .i64 8))), (.inr (.tmp 20))], none⟩,
         ⟨(some 6), .take 21, none⟩])
      (.seq (.region false [⟨(some 22), .mv (.tmp 6), none⟩,
          ⟨(some 23), .bin .neq .prim (.tmp 22) (.const (.int .i64 0)), none⟩])
       (.cond (.tmp 23) (.seq (.region false [⟨(some 24), .take 6, none⟩,
            ⟨(some 4), .take 24, none⟩])
         (.ret))
        (.skip))))
     (.seq (.seq (.region false [⟨(some 25), .fa 2 (.tmp 3), none⟩,
          ⟨(some 26), .ldc (.tmp 25), none⟩,
          ⟨(some 27), .call (.const (.fn 137 [] [])) [(.inr (.tmp 26))], none⟩,
          ⟨(some 28), .un .not (.tmp 27), none⟩])
       (.cond (.tmp 28) (.seq (.region false [⟨(some 4), .mv (.const (.int .i64 2)), none⟩])
         (.ret))
        (.skip)))
      (.seq (.region false [⟨(some 4), .mv (.const (.int .i64 0)), none⟩])
       (.ret))))))
def a_model_laws_1 : AFn := ⟨29, [.tmp 4], c_model_laws_1, false⟩
theorem t_model_laws_1 : cFn Tryz.prog takesW Tryz.f133 = some a_model_laws_1 := by kernel_rfl
theorem n_model_laws_1 : (Tryz.f133.name == "runtime.NumGoroutine") = false := by kernel_rfl
def c_model_each_api_Law__l0b : ACode :=
  .seq (.region false [⟨(some 17), .bin .lss .prim (.tmp 16) (.tmp 15), none⟩])
  (.seq (.cond (.tmp 17) (.skip)
    (.exit 0))
   (.seq (.block 1 (.seq (.region false [⟨(some 18), .ia (.slice 3) (.tmp 14) (.tmp 16), none⟩,
         ⟨(some 19), .lda 3 (.tmp 18), none⟩,
         ⟨(some 8), .mk 57 [(.str []), (.own 3 []), (.int .i64 0)], none⟩,
         ⟨none, .st 3 (.tmp 8) (.tmp 19), none⟩])
      (.seq (.region false [⟨(some 20), .mv (.tmp 2), none⟩,
          ⟨(some 21), .lda 3 (.tmp 8), none⟩,
          ⟨(some 22), .call (.tmp 20) [(.inr (.tmp 21))], none⟩,
          ⟨(some 9), .take 22, none⟩])
       (.seq (.region false [⟨(some 23), .mv (.tmp 9), none⟩,
           ⟨(some 24), .bin .neq .prim (.tmp 23) (.const (.int .i64 0)), none⟩])
        (.cond (.tmp 24) (.seq (.region false [⟨(some 25), .take 9, none⟩,
             ⟨(some 6), .take 25, none⟩])
          (.ret))
         (.skip))))))
    (.region false [⟨(some 26), .bin .add .prim (.tmp 16) (.const (.int .i64 1)), none⟩,
       ⟨(some 16), .mv (.tmp 26), none⟩])))
def c_model_each_api_Law__l0 : ACode := .loop c_model_each_api_Law__l0b
def c_model_each_api_Law__j1 : ACode :=
  .seq (.region false [⟨(some 6), .mv (.const (.int .i64 0)), none⟩])
  (.ret)
/-- simulator/model.each[simulator/api.Law] -/
def c_model_each_api_Law_ : ACode :=
  .seq (.region false [⟨(some 6), .mv (.const (.int .i64 0)), none⟩])
  (.seq (.seq (.region false [⟨(some 10), .mv (.tmp 0), none⟩,
       ⟨(some 11), .len .slice (.tmp 10), none⟩,
       ⟨(some 12), .mv (.tmp 1), none⟩,
       ⟨(some 13), .bin .gtr .prim (.tmp 11) (.tmp 12), none⟩])
    (.cond (.tmp 13) (.seq (.region false [⟨(some 6), .mv (.const (.int .i64 6)), none⟩])
      (.ret))
     (.skip)))
   (.seq (.seq (.region false [⟨(some 14), .mv (.tmp 0), none⟩,
        ⟨(some 15), .len .slice (.tmp 14), none⟩,
        ⟨(some 16), .mv (.const (.int .i64 0)), none⟩])
     (.block 0 (c_model_each_api_Law__l0)))
    c_model_each_api_Law__j1))
def a_model_each_api_Law_ : AFn := ⟨27, [.tmp 6], c_model_each_api_Law_, false⟩
theorem t_model_each_api_Law_ : cFn Tryz.prog takesW Tryz.f132 = some a_model_each_api_Law_ := by kernel_rfl
theorem n_model_each_api_Law_ : (Tryz.f132.name == "runtime.NumGoroutine") = false := by kernel_rfl
def c_expr_Same_l0b : ACode :=
  .seq (.region false [⟨(some 39), .bin .lss .prim (.tmp 38) (.tmp 37), none⟩])
  (.seq (.cond (.tmp 39) (.skip)
    (.exit 0))
   (.seq (.block 1 (.seq (.region false [⟨(some 40), .mv (.tmp 38), none⟩,
         ⟨(some 41), .ia (.slice 4) (.tmp 36) (.tmp 38), none⟩,
         ⟨(some 42), .lda 4 (.tmp 41), none⟩,
         ⟨(some 6), .mk 179 [(.int .i64 0), (.str []), (.int .i64 0), (.own 4 [])], none⟩,
         ⟨(some 5), .take 40, none⟩,
         ⟨none, .st 4 (.tmp 6) (.tmp 42), none⟩])
      (.seq (.region true [⟨(some 43), .lda 4 (.tmp 6), none⟩,
          ⟨(some 44), .fa 3 (.tmp 3), none⟩,
          ⟨(some 45), .ldc (.tmp 44), none⟩,
          ⟨(some 46), .mv (.tmp 5), none⟩,
          ⟨(some 47), .ia (.slice 4) (.tmp 45) (.tmp 46), none⟩,
          ⟨(some 48), .lda 4 (.tmp 47), none⟩,
          ⟨(some 49), .call (.const (.fn 177 [] [])) [(.inr (.tmp 43)), (.inr (.tmp 48))], none⟩,
          ⟨(some 50), .un .not (.tmp 49), none⟩])
       (.cond (.tmp 50) (.seq (.region false [⟨(some 4), .mv (.const (.bool false)), none⟩])
         (.ret))
        (.skip)))))
    (.region false [⟨(some 51), .bin .add .prim (.tmp 38) (.const (.int .i64 1)), none⟩,
       ⟨(some 38), .mv (.tmp 51), none⟩])))
def c_expr_Same_l0 : ACode := .loop c_expr_Same_l0b
def c_expr_Same_j1 : ACode :=
  .seq (.region false [⟨(some 4), .mv (.const (.bool true)), none⟩])
  (.ret)
/-- simulator/expr.Same -/
def c_expr_Same : ACode :=
  .seq (.region false [⟨(some 2), .box 179 4 (.tmp 0), none⟩,
     ⟨(some 3), .box 179 4 (.tmp 1), none⟩,
     ⟨(some 4), .mv (.const (.bool false)), none⟩])
  (.seq (.seq (.region false [⟨(some 7), .fa 0 (.tmp 2), none⟩,
       ⟨(some 8), .ldc (.tmp 7), none⟩,
       ⟨(some 9), .fa 0 (.tmp 3), none⟩,
       ⟨(some 10), .ldc (.tmp 9), none⟩,
       ⟨(some 11), .bin .neq .prim (.tmp 8) (.tmp 10), none⟩,
       ⟨(some 12), .mv (.tmp 11), none⟩,
       ⟨(some 13), .fa 1 (.tmp 2), (some (12, false))⟩,
       ⟨(some 14), .ldc (.tmp 13), (some (12, false))⟩,
       ⟨(some 15), .fa 1 (.tmp 3), (some (12, false))⟩,
       ⟨(some 16), .ldc (.tmp 15), (some (12, false))⟩,
       ⟨(some 17), .bin .neq .prim (.tmp 14) (.tmp 16), (some (12, false))⟩,
       ⟨(some 18), .pick (.tmp 12) (.const (.bool true)) (.tmp 17), none⟩,
       ⟨(some 19), .mv (.tmp 18), none⟩,
       ⟨(some 20), .fa 2 (.tmp 2), (some (19, false))⟩,
       ⟨(some 21), .ldc (.tmp 20), (some (19, false))⟩,
       ⟨(some 22), .fa 2 (.tmp 3), (some (19, false))⟩,
       ⟨(some 23), .ldc (.tmp 22), (some (19, false))⟩,
       ⟨(some 24), .bin .neq .prim (.tmp 21) (.tmp 23), (some (19, false))⟩,
       ⟨(some 25), .pick (.tmp 19) (.const (.bool true)) (.tmp 24), none⟩,
       ⟨(some 26), .mv (.tmp 25), none⟩,
       ⟨(some 27), .fa 3 (.tmp 2), (some (26, false))⟩,
       ⟨(some 28), .ldc (.tmp 27), (some (26, false))⟩,
       ⟨(some 29), .len .slice (.tmp 28), (some (26, false))⟩,
       ⟨(some 30), .fa 3 (.tmp 3), (some (26, false))⟩,
       ⟨(some 31), .ldc (.tmp 30), (some (26, false))⟩,
       ⟨(some 32), .len .slice (.tmp 31), (some (26, false))⟩,
       ⟨(some 33), .bin .neq .prim (.tmp 29) (.tmp 32), (some (26, false))⟩,
       ⟨(some 34), .pick (.tmp 26) (.const (.bool true)) (.tmp 33), none⟩])
    (.cond (.tmp 34) (.seq (.region false [⟨(some 4), .mv (.const (.bool false)), none⟩])
      (.ret))
     (.skip)))
   (.seq (.seq (.region false [⟨(some 35), .fa 3 (.tmp 2), none⟩,
        ⟨(some 36), .ldc (.tmp 35), none⟩,
        ⟨(some 37), .len .slice (.tmp 36), none⟩,
        ⟨(some 38), .mv (.const (.int .i64 0)), none⟩])
     (.block 0 (c_expr_Same_l0)))
    c_expr_Same_j1))
def a_expr_Same : AFn := ⟨52, [.tmp 4], c_expr_Same, false⟩
theorem t_expr_Same : cFn Tryz.prog takesW Tryz.f177 = some a_expr_Same := by kernel_rfl
theorem n_expr_Same : (Tryz.f177.name == "runtime.NumGoroutine") = false := by kernel_rfl
def c_slices_EqualFunc_Lapi_Expr_Lapi_Expr_api_Expr_api_Expr__l0b : ACode :=
  .seq (.region false [⟨(some 18), .bin .lss .prim (.tmp 17) (.tmp 16), none⟩])
  (.seq (.cond (.tmp 18) (.skip)
    (.exit 0))
   (.seq (.block 1 (.seq (.region false [⟨(some 19), .mv (.tmp 17), none⟩,
         ⟨(some 20), .ia (.slice 4) (.tmp 15) (.tmp 17), none⟩,
         ⟨(some 21), .lda 4 (.tmp 20), none⟩,
         ⟨(some 8), .mk 179 [(.int .i64 0), (.str []), (.int .i64 0), (.own 4 [])], none⟩,
         ⟨(some 7), .take 19, none⟩,
         ⟨none, .st 4 (.tmp 8) (.tmp 21), none⟩])
      (.seq (.region false [⟨(some 22), .mv (.tmp 1), none⟩,
          ⟨(some 23), .mv (.tmp 7), none⟩,
          ⟨(some 24), .ia (.slice 4) (.tmp 22) (.tmp 23), none⟩,
          ⟨(some 25), .lda 4 (.tmp 24), none⟩,
          ⟨(some 9), .mk 179 [(.int .i64 0), (.str []), (.int .i64 0), (.own 4 [])], none⟩,
          ⟨none, .st 4 (.tmp 9) (.tmp 25), none⟩])
       (.seq (.region false [⟨(some 26), .mv (.tmp 2), none⟩,
           ⟨(some 27), .lda 4 (.tmp 8), none⟩,
           ⟨(some 28), .lda 4 (.tmp 9), none⟩,
           ⟨(some 29), .call (.tmp 26) [(.inr (.tmp 27)), (.inr (.tmp 28))], none⟩,
           ⟨(some 30), .un .not (.tmp 29), none⟩])
        (.cond (.tmp 30) (.seq (.region false [⟨(some 6), .mv (.const (.bool false)), none⟩])
          (.ret))
         (.skip))))))
    (.region false [⟨(some 31), .bin .add .prim (.tmp 17) (.const (.int .i64 1)), none⟩,
       ⟨(some 17), .mv (.tmp 31), none⟩])))
def c_slices_EqualFunc_Lapi_Expr_Lapi_Expr_api_Expr_api_Expr__l0 : ACode := .loop c_slices_EqualFunc_Lapi_Expr_Lapi_Expr_api_Expr_api_Expr__l0b
def c_slices_EqualFunc_Lapi_Expr_Lapi_Expr_api_Expr_api_Expr__j1 : ACode :=
  .seq (.region false [⟨(some 6), .mv (.const (.bool true)), none⟩])
  (.ret)
/-- slices.EqualFunc[[]simulator/api.Expr,[]simulator/api.Expr,simulator/api.Expr,simulator/api.Expr] -/
def c_slices_EqualFunc_Lapi_Expr_Lapi_Expr_api_Expr_api_Expr_ : ACode :=
  .seq (.region false [⟨(some 6), .mv (.const (.bool false)), none⟩])
  (.seq (.seq (.region false [⟨(some 10), .mv (.tmp 0), none⟩,
       ⟨(some 11), .len .slice (.tmp 10), none⟩,
       ⟨(some 12), .mv (.tmp 1), none⟩,
       ⟨(some 13), .len .slice (.tmp 12), none⟩,
       ⟨(some 14), .bin .neq .prim (.tmp 11) (.tmp 13), none⟩])
    (.cond (.tmp 14) (.seq (.region false [⟨(some 6), .mv (.const (.bool false)), none⟩])
      (.ret))
     (.skip)))
   (.seq (.seq (.region false [⟨(some 15), .mv (.tmp 0), none⟩,
        ⟨(some 16), .len .slice (.tmp 15), none⟩,
        ⟨(some 17), .mv (.const (.int .i64 0)), none⟩])
     (.block 0 (c_slices_EqualFunc_Lapi_Expr_Lapi_Expr_api_Expr_api_Expr__l0)))
    c_slices_EqualFunc_Lapi_Expr_Lapi_Expr_api_Expr_api_Expr__j1))
def a_slices_EqualFunc_Lapi_Expr_Lapi_Expr_api_Expr_api_Expr_ : AFn := ⟨32, [.tmp 6], c_slices_EqualFunc_Lapi_Expr_Lapi_Expr_api_Expr_api_Expr_, false⟩
theorem t_slices_EqualFunc_Lapi_Expr_Lapi_Expr_api_Expr_api_Expr_ : cFn Tryz.prog takesW Tryz.f178 = some a_slices_EqualFunc_Lapi_Expr_Lapi_Expr_api_Expr_api_Expr_ := by kernel_rfl
theorem n_slices_EqualFunc_Lapi_Expr_Lapi_Expr_api_Expr_api_Expr_ : (Tryz.f178.name == "runtime.NumGoroutine") = false := by kernel_rfl
/-- slices.Contains[[]string,string] -/
def c_slices_Contains_Lstring_string_ : ACode :=
  .seq (.region false [⟨(some 4), .mv (.const (.bool false)), none⟩])
  (.seq (.region false [⟨(some 5), .mv (.tmp 0), none⟩,
      ⟨(some 6), .mv (.tmp 1), none⟩,
      ⟨(some 7), .call (.const (.fn 107 [] [])) [(.inr (.tmp 5)), (.inr (.tmp 6))], none⟩,
      ⟨(some 8), .bin .geq .prim (.tmp 7) (.const (.int .i64 0)), none⟩,
      ⟨(some 4), .take 8, none⟩])
   (.ret))
def a_slices_Contains_Lstring_string_ : AFn := ⟨9, [.tmp 4], c_slices_Contains_Lstring_string_, false⟩
theorem t_slices_Contains_Lstring_string_ : cFn Tryz.prog takesW Tryz.f128 = some a_slices_Contains_Lstring_string_ := by kernel_rfl
theorem n_slices_Contains_Lstring_string_ : (Tryz.f128.name == "runtime.NumGoroutine") = false := by kernel_rfl
/-- simulator/dist.Check -/
def c_dist_Check : ACode :=
  .seq (.region false [⟨(some 1), .box 88 6 (.tmp 0), none⟩,
     ⟨(some 2), .mv (.const (.int .i64 0)), none⟩])
  (.seq (.seq (.region false [⟨(some 5), .lda 6 (.tmp 1), none⟩,
       ⟨(some 6), .call (.const (.fn 151 [] [])) [(.inr (.tmp 5))], none⟩,
       ⟨(some 7), .un .not (.tmp 6), none⟩])
    (.cond (.tmp 7) (.seq (.region false [⟨(some 2), .mv (.const (.int .i64 1)), none⟩])
      (.ret))
     (.skip)))
   (.seq (.region false [⟨(some 3), .mv (.const (.bool false)), none⟩])
    (.seq (.seq (.region false [⟨(some 8), .fa 0 (.tmp 1), none⟩,
         ⟨(some 9), .ldc (.tmp 8), none⟩])
      (.block 0 (.seq (.region false [⟨(some 11), .bin .eql .prim (.tmp 9) (.const (.int .i64 1)), none⟩,
           ⟨(some 10), .take 11, none⟩])
        (.cond (.tmp 10) (.region false [⟨(some 12), .fa 1 (.tmp 1), none⟩,
            ⟨(some 13), .ldc (.tmp 12), none⟩,
            ⟨(some 14), .lit 3 1 [(.tmp 13)], none⟩,
            ⟨(some 15), .call (.const (.fn 152 [] [])) [(.inr (.const (.int .i64 0))), (.inr (.const (.int .i64 1000000000))), (.inr (.tmp 14))], none⟩,
            ⟨(some 3), .take 15, none⟩])
         (.seq (.region false [⟨(some 17), .bin .eql .prim (.tmp 9) (.const (.int .i64 2)), none⟩,
             ⟨(some 16), .take 17, none⟩])
          (.cond (.tmp 16) (.region false [⟨(some 18), .fa 1 (.tmp 1), none⟩,
              ⟨(some 19), .ldc (.tmp 18), none⟩,
              ⟨(some 20), .fa 2 (.tmp 1), none⟩,
              ⟨(some 21), .ldc (.tmp 20), none⟩,
              ⟨(some 22), .lit 3 1 [(.tmp 19), (.tmp 21)], none⟩,
              ⟨(some 23), .call (.const (.fn 152 [] [])) [(.inr (.const (.int .i64 0))), (.inr (.const (.int .i64 1000000000))), (.inr (.tmp 22))], none⟩,
              ⟨(some 24), .mv (.tmp 23), none⟩,
              ⟨(some 25), .fa 1 (.tmp 1), (some (24, true))⟩,
              ⟨(some 26), .ldc (.tmp 25), (some (24, true))⟩,
              ⟨(some 27), .fa 2 (.tmp 1), (some (24, true))⟩,
              ⟨(some 28), .ldc (.tmp 27), (some (24, true))⟩,
              ⟨(some 29), .bin .leq .prim (.tmp 26) (.tmp 28), (some (24, true))⟩,
              ⟨(some 30), .pick (.tmp 24) (.tmp 29) (.const (.bool false)), none⟩,
              ⟨(some 3), .take 30, none⟩])
           (.seq (.region false [⟨(some 32), .bin .eql .prim (.tmp 9) (.const (.int .i64 4)), none⟩,
               ⟨(some 31), .take 32, none⟩])
            (.cond (.tmp 31) (.region false [⟨(some 33), .fa 3 (.tmp 1), none⟩,
                ⟨(some 34), .ldc (.tmp 33), none⟩,
                ⟨(some 35), .lit 3 1 [(.tmp 34)], none⟩,
                ⟨(some 36), .call (.const (.fn 152 [] [])) [(.inr (.const (.int .i64 1))), (.inr (.const (.int .i64 20))), (.inr (.tmp 35))], none⟩,
                ⟨(some 37), .mv (.tmp 36), none⟩,
                ⟨(some 38), .fa 1 (.tmp 1), (some (37, true))⟩,
                ⟨(some 39), .ldc (.tmp 38), (some (37, true))⟩,
                ⟨(some 40), .fa 2 (.tmp 1), (some (37, true))⟩,
                ⟨(some 41), .ldc (.tmp 40), (some (37, true))⟩,
                ⟨(some 42), .lit 3 1 [(.tmp 39), (.tmp 41)], (some (37, true))⟩,
                ⟨(some 43), .call (.const (.fn 152 [] [])) [(.inr (.const (.int .i64 0))), (.inr (.const (.int .i64 1000000))), (.inr (.tmp 42))], (some (37, true))⟩,
                ⟨(some 44), .pick (.tmp 37) (.tmp 43) (.const (.bool false)), none⟩,
                ⟨(some 45), .mv (.tmp 44), none⟩,
                ⟨(some 46), .fa 1 (.tmp 1), (some (45, true))⟩,
                ⟨(some 47), .ldc (.tmp 46), (some (45, true))⟩,
                ⟨(some 48), .fa 2 (.tmp 1), (some (45, true))⟩,
                ⟨(some 49), .ldc (.tmp 48), (some (45, true))⟩,
                ⟨(some 50), .bin .leq .prim (.tmp 47) (.tmp 49), (some (45, true))⟩,
                ⟨(some 51), .pick (.tmp 45) (.tmp 50) (.const (.bool false)), none⟩,
                ⟨(some 3), .take 51, none⟩])
             (.seq (.region false [⟨(some 53), .bin .eql .prim (.tmp 9) (.const (.int .i64 5)), none⟩,
                 ⟨(some 52), .take 53, none⟩])
              (.cond (.tmp 52) (.region false [⟨(some 54), .fa 1 (.tmp 1), none⟩,
                  ⟨(some 55), .ldc (.tmp 54), none⟩,
                  ⟨(some 56), .fa 2 (.tmp 1), none⟩,
                  ⟨(some 57), .ldc (.tmp 56), none⟩,
                  ⟨(some 58), .lit 3 1 [(.tmp 55), (.tmp 57)], none⟩,
                  ⟨(some 59), .call (.const (.fn 152 [] [])) [(.inr (.const (.int .i64 1))), (.inr (.const (.int .i64 1000))), (.inr (.tmp 58))], none⟩,
                  ⟨(some 3), .take 59, none⟩])
               (.seq (.region false [⟨(some 61), .bin .eql .prim (.tmp 9) (.const (.int .i64 3)), none⟩,
                   ⟨(some 60), .take 61, none⟩])
                (.cond (.tmp 60) (.seq (.seq (.region false [⟨(some 62), .fa 4 (.tmp 1), none⟩,
                      ⟨(some 63), .ldc (.tmp 62), none⟩,
                      ⟨(some 64), .len .slice (.tmp 63), none⟩,
                      ⟨(some 4), .take 64, none⟩])
                   (.block 1 (.seq (.region false [⟨(some 66), .mv (.tmp 4), none⟩,
                        ⟨(some 67), .fa 5 (.tmp 1), none⟩,
                        ⟨(some 68), .ldc (.tmp 67), none⟩,
                        ⟨(some 69), .len .slice (.tmp 68), none⟩,
                        ⟨(some 70), .bin .neq .prim (.tmp 66) (.tmp 69), none⟩,
                        ⟨(some 65), .take 70, none⟩])
                     (.cond (.tmp 65) (.seq (.region false [⟨(some 2), .mv (.const (.int .i64 8)), none⟩])
                       (.ret))
                      (.seq (.region false [⟨(some 72), .mv (.tmp 4), none⟩,
                          ⟨(some 73), .bin .eql .prim (.tmp 72) (.const (.int .i64 0)), none⟩,
                          ⟨(some 71), .take 73, none⟩])
                       (.cond (.tmp 71) (.seq (.region false [⟨(some 2), .mv (.const (.int .i64 7)), none⟩])
                         (.ret))
                        (.seq (.region false [⟨(some 75), .mv (.tmp 4), none⟩,
                            ⟨(some 76), .bin .gtr .prim (.tmp 75) (.const (.int .i64 20)), none⟩,
                            ⟨(some 74), .take 76, none⟩])
                         (.cond (.tmp 74) (.seq (.region false [⟨(some 2), .mv (.const (.int .i64 6)), none⟩])
                           (.ret))
                          (.skip)))))))))
                  (.region false [⟨(some 77), .fa 4 (.tmp 1), none⟩,
                     ⟨(some 78), .ldc (.tmp 77), none⟩,
                     ⟨(some 79), .call (.const (.fn 152 [] [])) [(.inr (.const (.int .i64 0))), (.inr (.const (.int .i64 1000000000))), (.inr (.tmp 78))], none⟩,
                     ⟨(some 80), .mv (.tmp 79), none⟩,
                     ⟨(some 81), .fa 5 (.tmp 1), (some (80, true))⟩,
                     ⟨(some 82), .ldc (.tmp 81), (some (80, true))⟩,
                     ⟨(some 83), .call (.const (.fn 152 [] [])) [(.inr (.const (.int .i64 1))), (.inr (.const (.int .i64 1000))), (.inr (.tmp 82))], (some (80, true))⟩,
                     ⟨(some 84), .pick (.tmp 80) (.tmp 83) (.const (.bool false)), none⟩,
                     ⟨(some 3), .take 84, none⟩]))
                 (.skip)))))))))))))
     (.seq (.seq (.region false [⟨(some 85), .mv (.tmp 3), none⟩,
          ⟨(some 86), .un .not (.tmp 85), none⟩])
       (.cond (.tmp 86) (.seq (.region false [⟨(some 2), .mv (.const (.int .i64 2)), none⟩])
         (.ret))
        (.skip)))
      (.seq (.region false [⟨(some 2), .mv (.const (.int .i64 0)), none⟩])
       (.ret))))))
def a_dist_Check : AFn := ⟨87, [.tmp 2], c_dist_Check, false⟩
theorem t_dist_Check : cFn Tryz.prog takesW Tryz.f129 = some a_dist_Check := by kernel_rfl
theorem n_dist_Check : (Tryz.f129.name == "runtime.NumGoroutine") = false := by kernel_rfl
def c_slices_Concat_Lapi_Field_api_Field__l0b : ACode :=
  .seq (.region false [⟨(some 12), .bin .lss .prim (.tmp 11) (.tmp 10), none⟩])
  (.seq (.cond (.tmp 12) (.skip)
    (.exit 0))
   (.seq (.block 1 (.seq (.region false [⟨(some 13), .ia (.slice 1) (.tmp 9) (.tmp 11), none⟩,
         ⟨(some 14), .ldc (.tmp 13), none⟩,
         ⟨(some 5), .take 14, none⟩])
      (.seq (.region false [⟨(some 15), .mv (.tmp 3), none⟩,
          ⟨(some 16), .mv (.tmp 5), none⟩,
          ⟨(some 17), .len .slice (.tmp 16), none⟩,
          ⟨(some 18), .bin .add .prim (.tmp 15) (.tmp 17), none⟩,
          ⟨(some 3), .take 18, none⟩])
       (.seq (.region false [⟨(some 19), .mv (.tmp 3), none⟩,
           ⟨(some 20), .bin .lss .prim (.tmp 19) (.const (.int .i64 0)), none⟩])
        (.cond (.tmp 20) (.region false [⟨(some 21), .bad, none⟩,
            ⟨none, .bad, none⟩])
         (.skip))))))
    (.region false [⟨(some 22), .bin .add .prim (.tmp 11) (.const (.int .i64 1)), none⟩,
       ⟨(some 11), .mv (.tmp 22), none⟩])))
def c_slices_Concat_Lapi_Field_api_Field__l0 : ACode := .loop c_slices_Concat_Lapi_Field_api_Field__l0b
def c_slices_Concat_Lapi_Field_api_Field__l2b : ACode :=
  .seq (.region false [⟨(some 28), .bin .lss .prim (.tmp 27) (.tmp 26), none⟩])
  (.seq (.cond (.tmp 28) (.skip)
    (.exit 2))
   (.seq (.block 3 (.seq (.region false [⟨(some 29), .ia (.slice 1) (.tmp 25) (.tmp 27), none⟩,
         ⟨(some 30), .ldc (.tmp 29), none⟩,
         ⟨(some 8), .take 30, none⟩])
      (.region false [⟨(some 31), .take 6, none⟩,
         ⟨(some 32), .mv (.tmp 8), none⟩,
         ⟨(some 33), .app 2 24 31 (.tmp 32), none⟩,
         ⟨(some 6), .take 33, none⟩])))
    (.region false [⟨(some 34), .bin .add .prim (.tmp 27) (.const (.int .i64 1)), none⟩,
       ⟨(some 27), .mv (.tmp 34), none⟩])))
def c_slices_Concat_Lapi_Field_api_Field__l2 : ACode := .loop c_slices_Concat_Lapi_Field_api_Field__l2b
def c_slices_Concat_Lapi_Field_api_Field__j3 : ACode :=
  .seq (.region false [⟨(some 35), .take 6, none⟩,
     ⟨(some 2), .take 35, none⟩])
  (.ret)
def c_slices_Concat_Lapi_Field_api_Field__j1 : ACode :=
  .seq (.region false [⟨(some 23), .mv (.tmp 3), none⟩,
     ⟨(some 24), .call (.const (.fn 153 [] [])) [(.inr (.const (.own 2 []))), (.inr (.tmp 23))], none⟩,
     ⟨(some 6), .take 24, none⟩])
  (.seq (.seq (.region false [⟨(some 25), .mv (.tmp 0), none⟩,
       ⟨(some 26), .len .slice (.tmp 25), none⟩,
       ⟨(some 27), .mv (.const (.int .i64 0)), none⟩])
    (.block 2 (c_slices_Concat_Lapi_Field_api_Field__l2)))
   c_slices_Concat_Lapi_Field_api_Field__j3)
/-- slices.Concat[[]simulator/api.Field,simulator/api.Field] -/
def c_slices_Concat_Lapi_Field_api_Field_ : ACode :=
  .seq (.region false [⟨(some 2), .mv (.const (.own 2 [])), none⟩])
  (.seq (.region false [⟨(some 3), .mv (.const (.int .i64 0)), none⟩])
   (.seq (.seq (.region false [⟨(some 9), .mv (.tmp 0), none⟩,
        ⟨(some 10), .len .slice (.tmp 9), none⟩,
        ⟨(some 11), .mv (.const (.int .i64 0)), none⟩])
     (.block 0 (c_slices_Concat_Lapi_Field_api_Field__l0)))
    c_slices_Concat_Lapi_Field_api_Field__j1))
def a_slices_Concat_Lapi_Field_api_Field_ : AFn := ⟨36, [.tmp 2], c_slices_Concat_Lapi_Field_api_Field_, false⟩
theorem t_slices_Concat_Lapi_Field_api_Field_ : cFn Tryz.prog takesW Tryz.f130 = some a_slices_Concat_Lapi_Field_api_Field_ := by kernel_rfl
theorem n_slices_Concat_Lapi_Field_api_Field_ : (Tryz.f130.name == "runtime.NumGoroutine") = false := by kernel_rfl
/-- simulator/stmt.Check -/
def c_stmt_Check : ACode :=
  .seq (.region false [⟨(some 2), .mv (.const (.int .i64 0)), none⟩])
  (.seq (.seq (.region false [⟨(some 3), .mv (.tmp 0), none⟩,
       ⟨(some 4), .call (.const (.fn 154 [] [])) [(.inr (.tmp 3))], none⟩,
       ⟨(some 5), .bin .gtr .prim (.tmp 4) (.const (.int .i64 200)), none⟩])
    (.cond (.tmp 5) (.seq (.region false [⟨(some 2), .mv (.const (.int .i64 6)), none⟩])
      (.ret))
     (.skip)))
   (.seq (.seq (.region false [⟨(some 6), .mv (.tmp 0), none⟩,
        ⟨(some 7), .call (.const (.fn 155 [] [])) [(.inr (.tmp 6))], none⟩,
        ⟨(some 8), .bin .gtr .prim (.tmp 7) (.const (.int .i64 12)), none⟩])
     (.cond (.tmp 8) (.seq (.region false [⟨(some 2), .mv (.const (.int .i64 11)), none⟩])
       (.ret))
      (.skip)))
    (.seq (.region false [⟨(some 9), .mv (.tmp 0), none⟩,
        ⟨(some 10), .call (.const (.fn 156 [] [])) [(.inr (.tmp 9))], none⟩,
        ⟨(some 2), .take 10, none⟩])
     (.ret))))
def a_stmt_Check : AFn := ⟨11, [.tmp 2], c_stmt_Check, false⟩
theorem t_stmt_Check : cFn Tryz.prog takesW Tryz.f131 = some a_stmt_Check := by kernel_rfl
theorem n_stmt_Check : (Tryz.f131.name == "runtime.NumGoroutine") = false := by kernel_rfl
/-- simulator/model.laws$1$1 -/
def c_model_laws_1_1 : ACode :=
  .seq (.region false [⟨(some 2), .box 54 3 (.tmp 0), none⟩,
     ⟨(some 3), .mv (.const (.int .i64 0)), none⟩])
  (.seq (.region false [⟨(some 4), .lda 13 (.tmp 1), none⟩,
      ⟨(some 5), .lda 3 (.tmp 2), none⟩,
      ⟨(some 6), .call (.const (.fn 136 [] [])) [(.inr (.tmp 4)), (.inr (.tmp 5))], none⟩,
      ⟨(some 3), .take 6, none⟩])
   (.ret))
def a_model_laws_1_1 : AFn := ⟨7, [.tmp 3], c_model_laws_1_1, false⟩
theorem t_model_laws_1_1 : cFn Tryz.prog takesW Tryz.f135 = some a_model_laws_1_1 := by kernel_rfl
theorem n_model_laws_1_1 : (Tryz.f135.name == "runtime.NumGoroutine") = false := by kernel_rfl
def c_model_each_api_Term__l0b : ACode :=
  .seq (.region false [⟨(some 17), .bin .lss .prim (.tmp 16) (.tmp 15), none⟩])
  (.seq (.cond (.tmp 17) (.skip)
    (.exit 0))
   (.seq (.block 1 (.seq (.region false [⟨(some 18), .ia (.slice 3) (.tmp 14) (.tmp 16), none⟩,
         ⟨(some 19), .lda 3 (.tmp 18), none⟩,
         ⟨(some 8), .mk 54 [(.int .i64 0), (.str []), (.str [])], none⟩,
         ⟨none, .st 3 (.tmp 8) (.tmp 19), none⟩])
      (.seq (.region false [⟨(some 20), .mv (.tmp 2), none⟩,
          ⟨(some 21), .lda 3 (.tmp 8), none⟩,
          ⟨(some 22), .call (.tmp 20) [(.inr (.tmp 21))], none⟩,
          ⟨(some 9), .take 22, none⟩])
       (.seq (.region false [⟨(some 23), .mv (.tmp 9), none⟩,
           ⟨(some 24), .bin .neq .prim (.tmp 23) (.const (.int .i64 0)), none⟩])
        (.cond (.tmp 24) (.seq (.region false [⟨(some 25), .take 9, none⟩,
             ⟨(some 6), .take 25, none⟩])
          (.ret))
         (.skip))))))
    (.region false [⟨(some 26), .bin .add .prim (.tmp 16) (.const (.int .i64 1)), none⟩,
       ⟨(some 16), .mv (.tmp 26), none⟩])))
def c_model_each_api_Term__l0 : ACode := .loop c_model_each_api_Term__l0b
def c_model_each_api_Term__j1 : ACode :=
  .seq (.region false [⟨(some 6), .mv (.const (.int .i64 0)), none⟩])
  (.ret)
/-- simulator/model.each[simulator/api.Term] -/
def c_model_each_api_Term_ : ACode :=
  .seq (.region false [⟨(some 6), .mv (.const (.int .i64 0)), none⟩])
  (.seq (.seq (.region false [⟨(some 10), .mv (.tmp 0), none⟩,
       ⟨(some 11), .len .slice (.tmp 10), none⟩,
       ⟨(some 12), .mv (.tmp 1), none⟩,
       ⟨(some 13), .bin .gtr .prim (.tmp 11) (.tmp 12), none⟩])
    (.cond (.tmp 13) (.seq (.region false [⟨(some 6), .mv (.const (.int .i64 6)), none⟩])
      (.ret))
     (.skip)))
   (.seq (.seq (.region false [⟨(some 14), .mv (.tmp 0), none⟩,
        ⟨(some 15), .len .slice (.tmp 14), none⟩,
        ⟨(some 16), .mv (.const (.int .i64 0)), none⟩])
     (.block 0 (c_model_each_api_Term__l0)))
    c_model_each_api_Term__j1))
def a_model_each_api_Term_ : AFn := ⟨27, [.tmp 6], c_model_each_api_Term_, false⟩
theorem t_model_each_api_Term_ : cFn Tryz.prog takesW Tryz.f134 = some a_model_each_api_Term_ := by kernel_rfl
theorem n_model_each_api_Term_ : (Tryz.f134.name == "runtime.NumGoroutine") = false := by kernel_rfl
def c_dist_unused_j0 : ACode :=
  .cond (.tmp 27) (.seq (.region false [⟨(some 30), .mv (.tmp 3), none⟩,
      ⟨(some 31), .mv (.tmp 30), none⟩,
      ⟨(some 32), .fa 3 (.tmp 1), (some (31, true))⟩,
      ⟨(some 33), .ldc (.tmp 32), (some (31, true))⟩,
      ⟨(some 34), .bin .eql .prim (.tmp 33) (.const (.int .i64 0)), (some (31, true))⟩,
      ⟨(some 35), .pick (.tmp 31) (.tmp 34) (.const (.bool false)), none⟩,
      ⟨(some 2), .take 35, none⟩])
   (.ret))
  (.seq (.region false [⟨(some 37), .bin .eql .prim (.tmp 13) (.const (.int .i64 4)), none⟩,
      ⟨(some 36), .take 37, none⟩])
   (.cond (.tmp 36) (.seq (.region false [⟨(some 38), .take 3, none⟩,
        ⟨(some 2), .take 38, none⟩])
     (.ret))
    (.seq (.region false [⟨(some 40), .bin .eql .prim (.tmp 13) (.const (.int .i64 3)), none⟩,
        ⟨(some 39), .take 40, none⟩])
     (.cond (.tmp 39) (.seq (.region false [⟨(some 41), .fa 1 (.tmp 1), none⟩,
          ⟨(some 42), .ldc (.tmp 41), none⟩,
          ⟨(some 43), .bin .eql .prim (.tmp 42) (.const (.int .i64 0)), none⟩,
          ⟨(some 44), .mv (.tmp 43), none⟩,
          ⟨(some 45), .fa 2 (.tmp 1), (some (44, true))⟩,
          ⟨(some 46), .ldc (.tmp 45), (some (44, true))⟩,
          ⟨(some 47), .bin .eql .prim (.tmp 46) (.const (.int .i64 0)), (some (44, true))⟩,
          ⟨(some 48), .pick (.tmp 44) (.tmp 47) (.const (.bool false)), none⟩,
          ⟨(some 49), .mv (.tmp 48), none⟩,
          ⟨(some 50), .fa 3 (.tmp 1), (some (49, true))⟩,
          ⟨(some 51), .ldc (.tmp 50), (some (49, true))⟩,
          ⟨(some 52), .bin .eql .prim (.tmp 51) (.const (.int .i64 0)), (some (49, true))⟩,
          ⟨(some 53), .pick (.tmp 49) (.tmp 52) (.const (.bool false)), none⟩,
          ⟨(some 2), .take 53, none⟩])
       (.ret))
      (.skip)))))
def c_dist_unused_j1 : ACode :=
  .seq (.region false [⟨(some 2), .mv (.const (.bool false)), none⟩])
  (.ret)
/-- simulator/dist.unused -/
def c_dist_unused : ACode :=
  .seq (.region false [⟨(some 1), .box 88 6 (.tmp 0), none⟩,
     ⟨(some 2), .mv (.const (.bool false)), none⟩])
  (.seq (.region false [⟨(some 4), .fa 4 (.tmp 1), none⟩,
      ⟨(some 5), .ldc (.tmp 4), none⟩,
      ⟨(some 6), .len .slice (.tmp 5), none⟩,
      ⟨(some 7), .fa 5 (.tmp 1), none⟩,
      ⟨(some 8), .ldc (.tmp 7), none⟩,
      ⟨(some 9), .len .slice (.tmp 8), none⟩,
      ⟨(some 10), .bin .add .prim (.tmp 6) (.tmp 9), none⟩,
      ⟨(some 11), .bin .eql .prim (.tmp 10) (.const (.int .i64 0)), none⟩,
      ⟨(some 3), .take 11, none⟩])
   (.seq (.seq (.region false [⟨(some 12), .fa 0 (.tmp 1), none⟩,
        ⟨(some 13), .ldc (.tmp 12), none⟩])
     (.block 0 (.seq (.region false [⟨(some 15), .bin .eql .prim (.tmp 13) (.const (.int .i64 1)), none⟩,
          ⟨(some 14), .take 15, none⟩])
       (.cond (.tmp 14) (.seq (.region false [⟨(some 16), .mv (.tmp 3), none⟩,
            ⟨(some 17), .mv (.tmp 16), none⟩,
            ⟨(some 18), .fa 2 (.tmp 1), (some (17, true))⟩,
            ⟨(some 19), .ldc (.tmp 18), (some (17, true))⟩,
            ⟨(some 20), .bin .eql .prim (.tmp 19) (.const (.int .i64 0)), (some (17, true))⟩,
            ⟨(some 21), .pick (.tmp 17) (.tmp 20) (.const (.bool false)), none⟩,
            ⟨(some 22), .mv (.tmp 21), none⟩,
            ⟨(some 23), .fa 3 (.tmp 1), (some (22, true))⟩,
            ⟨(some 24), .ldc (.tmp 23), (some (22, true))⟩,
            ⟨(some 25), .bin .eql .prim (.tmp 24) (.const (.int .i64 0)), (some (22, true))⟩,
            ⟨(some 26), .pick (.tmp 22) (.tmp 25) (.const (.bool false)), none⟩,
            ⟨(some 2), .take 26, none⟩])
         (.ret))
        (.seq (.seq (.region false [⟨(some 28), .bin .eql .prim (.tmp 13) (.const (.int .i64 2)), none⟩,
             ⟨(some 27), .take 28, none⟩])
          (.cond (.tmp 27) (.skip)
           (.region false [⟨(some 29), .bin .eql .prim (.tmp 13) (.const (.int .i64 5)), none⟩,
              ⟨(some 27), .take 29, none⟩])))
         c_dist_unused_j0)))))
    c_dist_unused_j1))
def a_dist_unused : AFn := ⟨54, [.tmp 2], c_dist_unused, false⟩
theorem t_dist_unused : cFn Tryz.prog takesW Tryz.f151 = some a_dist_unused := by kernel_rfl
theorem n_dist_unused : (Tryz.f151.name == "runtime.NumGoroutine") = false := by kernel_rfl
/-- simulator/dist.within -/
def c_dist_within : ACode :=
  .seq (.region false [⟨(some 3), .box 3 1 (.tmp 0), none⟩,
     ⟨(some 4), .box 3 1 (.tmp 1), none⟩,
     ⟨(some 6), .mv (.const (.bool false)), none⟩])
  (.seq (.region false [⟨(some 7), .mv (.tmp 2), none⟩,
      ⟨(some 8), .mkfn 167 [] [(.tmp 3), (.tmp 4)], none⟩,
      ⟨(some 9), .call (.const (.fn 166 [] [])) [(.inr (.tmp 7)), (.inr (.tmp 8))], none⟩,
      ⟨(some 10), .un .not (.tmp 9), none⟩,
      ⟨(some 6), .take 10, none⟩])
   (.ret))
def a_dist_within : AFn := ⟨11, [.tmp 6], c_dist_within, false⟩
theorem t_dist_within : cFn Tryz.prog takesW Tryz.f152 = some a_dist_within := by kernel_rfl
theorem n_dist_within : (Tryz.f152.name == "runtime.NumGoroutine") = false := by kernel_rfl
def c_stmt_Count_l0b : ACode :=
  .seq (.region false [⟨(some 11), .bin .lss .prim (.tmp 10) (.tmp 9), none⟩])
  (.seq (.cond (.tmp 11) (.skip)
    (.exit 0))
   (.seq (.block 1 (.seq (.region false [⟨(some 12), .ia (.slice 21) (.tmp 8) (.tmp 10), none⟩,
         ⟨(some 13), .lda 21 (.tmp 12), none⟩,
         ⟨(some 5), .mk 181 [(.int .i64 0), (.str []), (.str []), (.int .i64 0), (.str []), (.int .i64 0), (.own 4 []), (.int .i64 0), (.str []), (.int .i64 0), (.own 4 []), (.own 4 []), (.int .i64 0), (.int .i64 0), (.int .i64 0), (.int .i64 0), (.own 1 []), (.own 1 []), (.bool false), (.own 21 []), (.own 21 [])], none⟩,
         ⟨none, .st 21 (.tmp 5) (.tmp 13), none⟩])
      (.region true [⟨(some 14), .mv (.tmp 3), none⟩,
         ⟨(some 15), .fa 19 (.tmp 5), none⟩,
         ⟨(some 16), .ldc (.tmp 15), none⟩,
         ⟨(some 17), .call (.const (.fn 154 [] [])) [(.inr (.tmp 16))], none⟩,
         ⟨(some 18), .fa 20 (.tmp 5), none⟩,
         ⟨(some 19), .ldc (.tmp 18), none⟩,
         ⟨(some 20), .call (.const (.fn 154 [] [])) [(.inr (.tmp 19))], none⟩,
         ⟨(some 21), .bin .add .prim (.tmp 17) (.tmp 20), none⟩,
         ⟨(some 22), .bin .add .prim (.tmp 14) (.tmp 21), none⟩,
         ⟨(some 3), .mv (.tmp 22), none⟩])))
    (.region false [⟨(some 23), .bin .add .prim (.tmp 10) (.const (.int .i64 1)), none⟩,
       ⟨(some 10), .mv (.tmp 23), none⟩])))
def c_stmt_Count_l0 : ACode := .loop c_stmt_Count_l0b
def c_stmt_Count_j1 : ACode :=
  .seq (.region false [⟨(some 24), .take 3, none⟩,
     ⟨(some 2), .take 24, none⟩])
  (.ret)
/-- simulator/stmt.Count -/
def c_stmt_Count : ACode :=
  .seq (.region false [⟨(some 2), .mv (.const (.int .i64 0)), none⟩])
  (.seq (.region false [⟨(some 6), .mv (.tmp 0), none⟩,
      ⟨(some 7), .len .slice (.tmp 6), none⟩,
      ⟨(some 3), .take 7, none⟩])
   (.seq (.seq (.region false [⟨(some 8), .mv (.tmp 0), none⟩,
        ⟨(some 9), .len .slice (.tmp 8), none⟩,
        ⟨(some 10), .mv (.const (.int .i64 0)), none⟩])
     (.block 0 (c_stmt_Count_l0)))
    c_stmt_Count_j1))
def a_stmt_Count : AFn := ⟨25, [.tmp 2], c_stmt_Count, false⟩
theorem t_stmt_Count : cFn Tryz.prog takesW Tryz.f154 = some a_stmt_Count := by kernel_rfl
theorem n_stmt_Count : (Tryz.f154.name == "runtime.NumGoroutine") = false := by kernel_rfl
def c_stmt_Depth_l0b : ACode :=
  .seq (.region false [⟨(some 9), .bin .lss .prim (.tmp 8) (.tmp 7), none⟩])
  (.seq (.cond (.tmp 9) (.skip)
    (.exit 0))
   (.seq (.block 1 (.seq (.region false [⟨(some 10), .ia (.slice 21) (.tmp 6) (.tmp 8), none⟩,
         ⟨(some 11), .lda 21 (.tmp 10), none⟩,
         ⟨(some 5), .mk 181 [(.int .i64 0), (.str []), (.str []), (.int .i64 0), (.str []), (.int .i64 0), (.own 4 []), (.int .i64 0), (.str []), (.int .i64 0), (.own 4 []), (.own 4 []), (.int .i64 0), (.int .i64 0), (.int .i64 0), (.int .i64 0), (.own 1 []), (.own 1 []), (.bool false), (.own 21 []), (.own 21 [])], none⟩,
         ⟨none, .st 21 (.tmp 5) (.tmp 11), none⟩])
      (.region true [⟨(some 12), .mv (.tmp 3), none⟩,
         ⟨(some 13), .fa 19 (.tmp 5), none⟩,
         ⟨(some 14), .ldc (.tmp 13), none⟩,
         ⟨(some 15), .call (.const (.fn 155 [] [])) [(.inr (.tmp 14))], none⟩,
         ⟨(some 16), .bin .add .prim (.const (.int .i64 1)) (.tmp 15), none⟩,
         ⟨(some 17), .fa 20 (.tmp 5), none⟩,
         ⟨(some 18), .ldc (.tmp 17), none⟩,
         ⟨(some 19), .call (.const (.fn 155 [] [])) [(.inr (.tmp 18))], none⟩,
         ⟨(some 20), .bin .add .prim (.const (.int .i64 1)) (.tmp 19), none⟩,
         ⟨(some 21), .max [(.tmp 12), (.tmp 16), (.tmp 20)], none⟩,
         ⟨(some 3), .take 21, none⟩])))
    (.region false [⟨(some 22), .bin .add .prim (.tmp 8) (.const (.int .i64 1)), none⟩,
       ⟨(some 8), .mv (.tmp 22), none⟩])))
def c_stmt_Depth_l0 : ACode := .loop c_stmt_Depth_l0b
def c_stmt_Depth_j1 : ACode :=
  .seq (.region false [⟨(some 23), .take 3, none⟩,
     ⟨(some 2), .take 23, none⟩])
  (.ret)
/-- simulator/stmt.Depth -/
def c_stmt_Depth : ACode :=
  .seq (.region false [⟨(some 2), .mv (.const (.int .i64 0)), none⟩])
  (.seq (.region false [⟨(some 3), .mv (.const (.int .i64 0)), none⟩])
   (.seq (.seq (.region false [⟨(some 6), .mv (.tmp 0), none⟩,
        ⟨(some 7), .len .slice (.tmp 6), none⟩,
        ⟨(some 8), .mv (.const (.int .i64 0)), none⟩])
     (.block 0 (c_stmt_Depth_l0)))
    c_stmt_Depth_j1))
def a_stmt_Depth : AFn := ⟨24, [.tmp 2], c_stmt_Depth, false⟩
theorem t_stmt_Depth : cFn Tryz.prog takesW Tryz.f155 = some a_stmt_Depth := by kernel_rfl
theorem n_stmt_Depth : (Tryz.f155.name == "runtime.NumGoroutine") = false := by kernel_rfl
def c_stmt_check_l0b : ACode :=
  .seq (.region false [⟨(some 13), .bin .lss .prim (.tmp 12) (.tmp 11), none⟩])
  (.seq (.cond (.tmp 13) (.skip)
    (.exit 0))
   (.seq (.block 1 (.seq (.region false [⟨(some 14), .ia (.slice 21) (.tmp 10) (.tmp 12), none⟩,
         ⟨(some 15), .lda 21 (.tmp 14), none⟩,
         ⟨(some 4), .mk 181 [(.int .i64 0), (.str []), (.str []), (.int .i64 0), (.str []), (.int .i64 0), (.own 4 []), (.int .i64 0), (.str []), (.int .i64 0), (.own 4 []), (.own 4 []), (.int .i64 0), (.int .i64 0), (.int .i64 0), (.int .i64 0), (.own 1 []), (.own 1 []), (.bool false), (.own 21 []), (.own 21 [])], none⟩,
         ⟨none, .st 21 (.tmp 4) (.tmp 15), none⟩])
      (.seq (.region false [⟨(some 17), .fa 0 (.tmp 4), none⟩,
          ⟨(some 18), .ldc (.tmp 17), none⟩,
          ⟨(some 19), .call (.const (.fn 168 [] [])) [(.inr (.tmp 18))], none⟩,
          ⟨(some 16), .mv (.tmp 19), none⟩,
          ⟨(some 20), .extract (.tmp 16) 0, none⟩,
          ⟨(some 21), .extract (.tmp 16) 1, none⟩,
          ⟨(some 5), .mk 194 [(.bool false), (.bool false), (.bool false), (.bool false), (.bool false), (.bool false), (.bool false), (.bool false), (.bool false)], none⟩,
          ⟨none, .st 9 (.tmp 5) (.tmp 20), none⟩,
          ⟨(some 6), .take 21, none⟩])
       (.seq (.seq (.region false [⟨(some 22), .mv (.tmp 6), none⟩,
            ⟨(some 23), .un .not (.tmp 22), none⟩,
            ⟨(some 24), .mv (.tmp 23), none⟩,
            ⟨(some 25), .lda 21 (.tmp 4), (some (24, false))⟩,
            ⟨(some 26), .lda 9 (.tmp 5), (some (24, false))⟩,
            ⟨(some 27), .call (.const (.fn 169 [] [])) [(.inr (.tmp 25)), (.inr (.tmp 26))], (some (24, false))⟩,
            ⟨(some 28), .un .not (.tmp 27), (some (24, false))⟩,
            ⟨(some 29), .pick (.tmp 24) (.const (.bool true)) (.tmp 28), none⟩])
         (.cond (.tmp 29) (.seq (.region false [⟨(some 2), .mv (.const (.int .i64 1)), none⟩])
           (.ret))
          (.skip)))
        (.seq (.seq (.region false [⟨(some 30), .lda 21 (.tmp 4), none⟩,
             ⟨(some 31), .lda 9 (.tmp 5), none⟩,
             ⟨(some 32), .call (.const (.fn 170 [] [])) [(.inr (.tmp 30)), (.inr (.tmp 31))], none⟩,
             ⟨(some 7), .take 32, none⟩])
          (.seq (.region false [⟨(some 33), .mv (.tmp 7), none⟩,
              ⟨(some 34), .bin .neq .prim (.tmp 33) (.const (.int .i64 0)), none⟩])
           (.cond (.tmp 34) (.seq (.region false [⟨(some 35), .take 7, none⟩,
                ⟨(some 2), .take 35, none⟩])
             (.ret))
            (.skip))))
         (.seq (.seq (.region false [⟨(some 36), .fa 19 (.tmp 4), none⟩,
              ⟨(some 37), .ldc (.tmp 36), none⟩,
              ⟨(some 38), .call (.const (.fn 156 [] [])) [(.inr (.tmp 37))], none⟩,
              ⟨(some 8), .take 38, none⟩])
           (.seq (.region false [⟨(some 39), .mv (.tmp 8), none⟩,
               ⟨(some 40), .bin .neq .prim (.tmp 39) (.const (.int .i64 0)), none⟩])
            (.cond (.tmp 40) (.seq (.region false [⟨(some 41), .take 8, none⟩,
                 ⟨(some 2), .take 41, none⟩])
              (.ret))
             (.skip))))
          (.seq (.region false [⟨(some 42), .fa 20 (.tmp 4), none⟩,
              ⟨(some 43), .ldc (.tmp 42), none⟩,
              ⟨(some 44), .call (.const (.fn 156 [] [])) [(.inr (.tmp 43))], none⟩,
              ⟨(some 9), .take 44, none⟩])
           (.seq (.region false [⟨(some 45), .mv (.tmp 9), none⟩,
               ⟨(some 46), .bin .neq .prim (.tmp 45) (.const (.int .i64 0)), none⟩])
            (.cond (.tmp 46) (.seq (.region false [⟨(some 47), .take 9, none⟩,
                 ⟨(some 2), .take 47, none⟩])
              (.ret))
             (.skip))))))))))
    (.region false [⟨(some 48), .bin .add .prim (.tmp 12) (.const (.int .i64 1)), none⟩,
       ⟨(some 12), .mv (.tmp 48), none⟩])))
def c_stmt_check_l0 : ACode := .loop c_stmt_check_l0b
def c_stmt_check_j1 : ACode :=
  .seq (.region false [⟨(some 2), .mv (.const (.int .i64 0)), none⟩])
  (.ret)
/-- simulator/stmt.check -/
def c_stmt_check : ACode :=
  .seq (.region false [⟨(some 2), .mv (.const (.int .i64 0)), none⟩])
  (.seq (.seq (.region false [⟨(some 10), .mv (.tmp 0), none⟩,
       ⟨(some 11), .len .slice (.tmp 10), none⟩,
       ⟨(some 12), .mv (.const (.int .i64 0)), none⟩])
    (.block 0 (c_stmt_check_l0)))
   c_stmt_check_j1)
def a_stmt_check : AFn := ⟨49, [.tmp 2], c_stmt_check, false⟩
theorem t_stmt_check : cFn Tryz.prog takesW Tryz.f156 = some a_stmt_check := by kernel_rfl
theorem n_stmt_check : (Tryz.f156.name == "runtime.NumGoroutine") = false := by kernel_rfl
def c_model_term_j1 : ACode :=
  .cond (.tmp 17) (.region false [⟨(some 21), .fa 3 (.tmp 2), none⟩,
     ⟨(some 22), .ldc (.tmp 21), none⟩,
     ⟨(some 23), .mkfn 158 [] [(.tmp 3)], none⟩,
     ⟨(some 24), .call (.const (.fn 157 [] [])) [(.inr (.tmp 22)), (.inr (.tmp 23))], none⟩,
     ⟨(some 5), .take 24, none⟩])
  (.seq (.region false [⟨(some 26), .bin .eql .prim (.tmp 7) (.const (.str [99, 111, 117, 110, 116, 101, 100])), none⟩,
      ⟨(some 25), .take 26, none⟩])
   (.cond (.tmp 25) (.region false [⟨(some 27), .fa 9 (.tmp 2), none⟩,
       ⟨(some 28), .ldc (.tmp 27), none⟩,
       ⟨(some 29), .fa 2 (.tmp 3), none⟩,
       ⟨(some 30), .ldc (.tmp 29), none⟩,
       ⟨(some 31), .call (.const (.fn 128 [] [])) [(.inr (.tmp 28)), (.inr (.tmp 30))], none⟩,
       ⟨(some 5), .take 31, none⟩])
    (.seq (.region false [⟨(some 4), .mv (.const (.int .i64 1)), none⟩])
     (.ret))))
def c_model_term_j0 : ACode :=
  .cond (.tmp 8) (.region false [⟨(some 12), .lda 13 (.tmp 2), none⟩,
     ⟨(some 13), .fa 2 (.tmp 3), none⟩,
     ⟨(some 14), .ldc (.tmp 13), none⟩,
     ⟨(some 15), .call (.const (.fn 16 [] [])) [(.inr (.tmp 12)), (.inr (.tmp 14))], none⟩,
     ⟨(some 16), .bin .geq .prim (.tmp 15) (.const (.int .i64 0)), none⟩,
     ⟨(some 5), .take 16, none⟩])
  (.seq (.seq (.region false [⟨(some 18), .bin .eql .prim (.tmp 7) (.const (.str [115, 116, 111, 114, 101, 100])), none⟩,
       ⟨(some 17), .take 18, none⟩])
    (.cond (.tmp 17) (.skip)
     (.seq (.region false [⟨(some 19), .bin .eql .prim (.tmp 7) (.const (.str [101, 110, 116, 101, 114, 101, 100])), none⟩,
         ⟨(some 17), .take 19, none⟩])
      (.cond (.tmp 17) (.skip)
       (.region false [⟨(some 20), .bin .eql .prim (.tmp 7) (.const (.str [108, 101, 102, 116])), none⟩,
          ⟨(some 17), .take 20, none⟩])))))
   c_model_term_j1)
def c_model_term_j2 : ACode :=
  .seq (.block 1 (.seq (.region false [⟨(some 33), .mv (.tmp 5), none⟩,
       ⟨(some 34), .un .not (.tmp 33), none⟩,
       ⟨(some 32), .take 34, none⟩])
    (.cond (.tmp 32) (.seq (.region false [⟨(some 4), .mv (.const (.int .i64 5)), none⟩])
      (.ret))
     (.seq (.region false [⟨(some 36), .fa 0 (.tmp 3), none⟩,
         ⟨(some 37), .ldc (.tmp 36), none⟩,
         ⟨(some 38), .call (.const (.fn 65 [] [])) [(.inr (.tmp 37)), (.inr (.const (.int .i64 (-1000)))), (.inr (.const (.int .i64 1000)))], none⟩,
         ⟨(some 39), .un .not (.tmp 38), none⟩,
         ⟨(some 40), .mv (.tmp 39), none⟩,
         ⟨(some 41), .fa 0 (.tmp 3), (some (40, false))⟩,
         ⟨(some 42), .ldc (.tmp 41), (some (40, false))⟩,
         ⟨(some 43), .bin .eql .prim (.tmp 42) (.const (.int .i64 0)), (some (40, false))⟩,
         ⟨(some 44), .pick (.tmp 40) (.const (.bool true)) (.tmp 43), none⟩,
         ⟨(some 35), .take 44, none⟩])
      (.cond (.tmp 35) (.seq (.region false [⟨(some 4), .mv (.const (.int .i64 2)), none⟩])
        (.ret))
       (.skip))))))
  (.seq (.region false [⟨(some 4), .mv (.const (.int .i64 0)), none⟩])
   (.ret))
/-- simulator/model.term -/
def c_model_term : ACode :=
  .seq (.region false [⟨(some 2), .box 42 13 (.tmp 0), none⟩,
     ⟨(some 3), .box 54 3 (.tmp 1), none⟩,
     ⟨(some 4), .mv (.const (.int .i64 0)), none⟩])
  (.seq (.region false [⟨(some 5), .mv (.const (.bool false)), none⟩])
   (.seq (.seq (.region false [⟨(some 6), .fa 1 (.tmp 3), none⟩,
        ⟨(some 7), .ldc (.tmp 6), none⟩])
     (.block 0 (.seq (.seq (.region false [⟨(some 9), .bin .eql .prim (.tmp 7) (.const (.str [99, 114, 101, 97, 116, 101, 100])), none⟩,
           ⟨(some 8), .take 9, none⟩])
        (.cond (.tmp 8) (.skip)
         (.seq (.region false [⟨(some 10), .bin .eql .prim (.tmp 7) (.const (.str [101, 110, 100, 101, 100])), none⟩,
             ⟨(some 8), .take 10, none⟩])
          (.cond (.tmp 8) (.skip)
           (.region false [⟨(some 11), .bin .eql .prim (.tmp 7) (.const (.str [105, 110, 115, 105, 100, 101])), none⟩,
              ⟨(some 8), .take 11, none⟩])))))
       c_model_term_j0)))
    c_model_term_j2))
def a_model_term : AFn := ⟨45, [.tmp 4], c_model_term, false⟩
theorem t_model_term : cFn Tryz.prog takesW Tryz.f136 = some a_model_term := by kernel_rfl
theorem n_model_term : (Tryz.f136.name == "runtime.NumGoroutine") = false := by kernel_rfl
/-- simulator/dist.within$1 -/
def c_dist_within_1 : ACode :=
  .seq (.region false [⟨(some 4), .mv (.const (.bool false)), none⟩])
  (.seq (.region false [⟨(some 5), .mv (.tmp 0), none⟩,
      ⟨(some 6), .ldc (.tmp 1), none⟩,
      ⟨(some 7), .bin .lss .prim (.tmp 5) (.tmp 6), none⟩,
      ⟨(some 8), .mv (.tmp 7), none⟩,
      ⟨(some 9), .mv (.tmp 0), (some (8, false))⟩,
      ⟨(some 10), .ldc (.tmp 2), (some (8, false))⟩,
      ⟨(some 11), .bin .gtr .prim (.tmp 9) (.tmp 10), (some (8, false))⟩,
      ⟨(some 12), .pick (.tmp 8) (.const (.bool true)) (.tmp 11), none⟩,
      ⟨(some 4), .take 12, none⟩])
   (.ret))
def a_dist_within_1 : AFn := ⟨13, [.tmp 4], c_dist_within_1, false⟩
theorem t_dist_within_1 : cFn Tryz.prog takesW Tryz.f167 = some a_dist_within_1 := by kernel_rfl
theorem n_dist_within_1 : (Tryz.f167.name == "runtime.NumGoroutine") = false := by kernel_rfl
/-- slices.ContainsFunc[[]int,int] -/
def c_slices_ContainsFunc_Lint_int_ : ACode :=
  .seq (.region false [⟨(some 4), .mv (.const (.bool false)), none⟩])
  (.seq (.region false [⟨(some 5), .mv (.tmp 0), none⟩,
      ⟨(some 6), .mv (.tmp 1), none⟩,
      ⟨(some 7), .call (.const (.fn 179 [] [])) [(.inr (.tmp 5)), (.inr (.tmp 6))], none⟩,
      ⟨(some 8), .bin .geq .prim (.tmp 7) (.const (.int .i64 0)), none⟩,
      ⟨(some 4), .take 8, none⟩])
   (.ret))
def a_slices_ContainsFunc_Lint_int_ : AFn := ⟨9, [.tmp 4], c_slices_ContainsFunc_Lint_int_, false⟩
theorem t_slices_ContainsFunc_Lint_int_ : cFn Tryz.prog takesW Tryz.f166 = some a_slices_ContainsFunc_Lint_int_ := by kernel_rfl
theorem n_slices_ContainsFunc_Lint_int_ : (Tryz.f166.name == "runtime.NumGoroutine") = false := by kernel_rfl
def c_stmt_uses_j1 : ACode :=
  .cond (.tmp 32) (.seq (.region false [⟨(some 35), .build [(.bool false), (.bool false), (.bool false), (.bool false), (.bool false), (.bool false), (.bool false), (.bool false), (.bool false)] [(0, 1, (.const (.bool true)))], none⟩,
      ⟨none, .st 9 (.tmp 2) (.tmp 35), none⟩,
      ⟨(some 3), .mv (.const (.bool true)), none⟩])
   (.ret))
  (.seq (.region false [⟨(some 37), .bin .eql .prim (.tmp 4) (.const (.int .i64 13)), none⟩,
      ⟨(some 36), .take 37, none⟩])
   (.cond (.tmp 36) (.seq (.region false [⟨(some 38), .build [(.bool false), (.bool false), (.bool false), (.bool false), (.bool false), (.bool false), (.bool false), (.bool false), (.bool false)] [(0, 1, (.const (.bool true))), (1, 1, (.const (.bool true))), (2, 1, (.const (.bool true))), (4, 1, (.const (.bool true)))], none⟩,
        ⟨none, .st 9 (.tmp 2) (.tmp 38), none⟩,
        ⟨(some 3), .mv (.const (.bool true)), none⟩])
     (.ret))
    (.seq (.region false [⟨(some 40), .bin .eql .prim (.tmp 4) (.const (.int .i64 14)), none⟩,
        ⟨(some 39), .take 40, none⟩])
     (.cond (.tmp 39) (.seq (.region false [⟨(some 41), .build [(.bool false), (.bool false), (.bool false), (.bool false), (.bool false), (.bool false), (.bool false), (.bool false), (.bool false)] [(0, 1, (.const (.bool true))), (2, 1, (.const (.bool true))), (4, 1, (.const (.bool true)))], none⟩,
          ⟨none, .st 9 (.tmp 2) (.tmp 41), none⟩,
          ⟨(some 3), .mv (.const (.bool true)), none⟩])
       (.ret))
      (.seq (.region false [⟨(some 43), .bin .eql .prim (.tmp 4) (.const (.int .i64 18)), none⟩,
          ⟨(some 42), .take 43, none⟩])
       (.cond (.tmp 42) (.seq (.region false [⟨(some 44), .build [(.bool false), (.bool false), (.bool false), (.bool false), (.bool false), (.bool false), (.bool false), (.bool false), (.bool false)] [], none⟩,
            ⟨none, .st 9 (.tmp 2) (.tmp 44), none⟩,
            ⟨(some 3), .mv (.const (.bool true)), none⟩])
         (.ret))
        (.skip)))))))
def c_stmt_uses_j0 : ACode :=
  .cond (.tmp 5) (.seq (.region false [⟨(some 13), .build [(.bool false), (.bool false), (.bool false), (.bool false), (.bool false), (.bool false), (.bool false), (.bool false), (.bool false)] [(0, 1, (.const (.bool true))), (2, 1, (.const (.bool true)))], none⟩,
      ⟨none, .st 9 (.tmp 2) (.tmp 13), none⟩,
      ⟨(some 3), .mv (.const (.bool true)), none⟩])
   (.ret))
  (.seq (.region false [⟨(some 15), .bin .eql .prim (.tmp 4) (.const (.int .i64 2)), none⟩,
      ⟨(some 14), .take 15, none⟩])
   (.cond (.tmp 14) (.seq (.region false [⟨(some 16), .build [(.bool false), (.bool false), (.bool false), (.bool false), (.bool false), (.bool false), (.bool false), (.bool false), (.bool false)] [(0, 1, (.const (.bool true))), (1, 1, (.const (.bool true))), (5, 1, (.const (.bool true)))], none⟩,
        ⟨none, .st 9 (.tmp 2) (.tmp 16), none⟩,
        ⟨(some 3), .mv (.const (.bool true)), none⟩])
     (.ret))
    (.seq (.region false [⟨(some 18), .bin .eql .prim (.tmp 4) (.const (.int .i64 3)), none⟩,
        ⟨(some 17), .take 18, none⟩])
     (.cond (.tmp 17) (.seq (.region false [⟨(some 19), .build [(.bool false), (.bool false), (.bool false), (.bool false), (.bool false), (.bool false), (.bool false), (.bool false), (.bool false)] [(2, 1, (.const (.bool true))), (7, 1, (.const (.bool true))), (8, 1, (.const (.bool true)))], none⟩,
          ⟨none, .st 9 (.tmp 2) (.tmp 19), none⟩,
          ⟨(some 3), .mv (.const (.bool true)), none⟩])
       (.ret))
      (.seq (.region false [⟨(some 21), .bin .eql .prim (.tmp 4) (.const (.int .i64 4)), none⟩,
          ⟨(some 20), .take 21, none⟩])
       (.cond (.tmp 20) (.seq (.region false [⟨(some 22), .build [(.bool false), (.bool false), (.bool false), (.bool false), (.bool false), (.bool false), (.bool false), (.bool false), (.bool false)] [(2, 1, (.const (.bool true))), (7, 1, (.const (.bool true)))], none⟩,
            ⟨none, .st 9 (.tmp 2) (.tmp 22), none⟩,
            ⟨(some 3), .mv (.const (.bool true)), none⟩])
         (.ret))
        (.seq (.region false [⟨(some 24), .bin .eql .prim (.tmp 4) (.const (.int .i64 5)), none⟩,
            ⟨(some 23), .take 24, none⟩])
         (.cond (.tmp 23) (.seq (.region false [⟨(some 25), .build [(.bool false), (.bool false), (.bool false), (.bool false), (.bool false), (.bool false), (.bool false), (.bool false), (.bool false)] [(2, 1, (.const (.bool true)))], none⟩,
              ⟨none, .st 9 (.tmp 2) (.tmp 25), none⟩,
              ⟨(some 3), .mv (.const (.bool true)), none⟩])
           (.ret))
          (.seq (.region false [⟨(some 27), .bin .eql .prim (.tmp 4) (.const (.int .i64 6)), none⟩,
              ⟨(some 26), .take 27, none⟩])
           (.cond (.tmp 26) (.seq (.region false [⟨(some 28), .build [(.bool false), (.bool false), (.bool false), (.bool false), (.bool false), (.bool false), (.bool false), (.bool false), (.bool false)] [(0, 1, (.const (.bool true))), (2, 1, (.const (.bool true))), (3, 1, (.const (.bool true))), (6, 1, (.const (.bool true)))], none⟩,
                ⟨none, .st 9 (.tmp 2) (.tmp 28), none⟩,
                ⟨(some 3), .mv (.const (.bool true)), none⟩])
             (.ret))
            (.seq (.region false [⟨(some 30), .bin .eql .prim (.tmp 4) (.const (.int .i64 9)), none⟩,
                ⟨(some 29), .take 30, none⟩])
             (.cond (.tmp 29) (.seq (.region false [⟨(some 31), .build [(.bool false), (.bool false), (.bool false), (.bool false), (.bool false), (.bool false), (.bool false), (.bool false), (.bool false)] [(0, 1, (.const (.bool true))), (1, 1, (.const (.bool true)))], none⟩,
                  ⟨none, .st 9 (.tmp 2) (.tmp 31), none⟩,
                  ⟨(some 3), .mv (.const (.bool true)), none⟩])
               (.ret))
              (.seq (.seq (.region false [⟨(some 33), .bin .eql .prim (.tmp 4) (.const (.int .i64 10)), none⟩,
                   ⟨(some 32), .take 33, none⟩])
                (.cond (.tmp 32) (.skip)
                 (.region false [⟨(some 34), .bin .eql .prim (.tmp 4) (.const (.int .i64 11)), none⟩,
                    ⟨(some 32), .take 34, none⟩])))
               c_stmt_uses_j1)))))))))))))
def c_stmt_uses_j2 : ACode :=
  .seq (.region false [⟨(some 45), .build [(.bool false), (.bool false), (.bool false), (.bool false), (.bool false), (.bool false), (.bool false), (.bool false), (.bool false)] [], none⟩,
     ⟨none, .st 9 (.tmp 2) (.tmp 45), none⟩,
     ⟨(some 3), .mv (.const (.bool false)), none⟩])
  (.ret)
/-- simulator/stmt.uses -/
def c_stmt_uses : ACode :=
  .seq (.region false [⟨(some 2), .mk 194 [(.bool false), (.bool false), (.bool false), (.bool false), (.bool false), (.bool false), (.bool false), (.bool false), (.bool false)], none⟩,
     ⟨(some 3), .mv (.const (.bool false)), none⟩])
  (.seq (.seq (.region false [⟨(some 4), .mv (.tmp 0), none⟩])
    (.block 0 (.seq (.seq (.region false [⟨(some 6), .bin .eql .prim (.tmp 4) (.const (.int .i64 1)), none⟩,
          ⟨(some 5), .take 6, none⟩])
       (.cond (.tmp 5) (.skip)
        (.seq (.region false [⟨(some 7), .bin .eql .prim (.tmp 4) (.const (.int .i64 7)), none⟩,
            ⟨(some 5), .take 7, none⟩])
         (.cond (.tmp 5) (.skip)
          (.seq (.region false [⟨(some 8), .bin .eql .prim (.tmp 4) (.const (.int .i64 8)), none⟩,
              ⟨(some 5), .take 8, none⟩])
           (.cond (.tmp 5) (.skip)
            (.seq (.region false [⟨(some 9), .bin .eql .prim (.tmp 4) (.const (.int .i64 12)), none⟩,
                ⟨(some 5), .take 9, none⟩])
             (.cond (.tmp 5) (.skip)
              (.seq (.region false [⟨(some 10), .bin .eql .prim (.tmp 4) (.const (.int .i64 15)), none⟩,
                  ⟨(some 5), .take 10, none⟩])
               (.cond (.tmp 5) (.skip)
                (.seq (.region false [⟨(some 11), .bin .eql .prim (.tmp 4) (.const (.int .i64 16)), none⟩,
                    ⟨(some 5), .take 11, none⟩])
                 (.cond (.tmp 5) (.skip)
                  (.region false [⟨(some 12), .bin .eql .prim (.tmp 4) (.const (.int .i64 17)), none⟩,
                     ⟨(some 5), .take 12, none⟩])))))))))))))
      c_stmt_uses_j0)))
   c_stmt_uses_j2)
def a_stmt_uses : AFn := ⟨46, [.agg 2 9, .tmp 3], c_stmt_uses, false⟩
theorem t_stmt_uses : cFn Tryz.prog takesW Tryz.f168 = some a_stmt_uses := by kernel_rfl
theorem n_stmt_uses : (Tryz.f168.name == "runtime.NumGoroutine") = false := by kernel_rfl
/-- simulator/stmt.form -/
def c_stmt_form : ACode :=
  .seq (.region false [⟨(some 2), .box 181 21 (.tmp 0), none⟩,
     ⟨(some 3), .box 194 9 (.tmp 1), none⟩,
     ⟨(some 4), .mv (.const (.bool false)), none⟩])
  (.seq (.region false [⟨(some 5), .mv (.const (.fn 180 [] [])), none⟩])
   (.seq (.region false [⟨(some 6), .fa 0 (.tmp 3), none⟩,
       ⟨(some 7), .ldc (.tmp 6), none⟩,
       ⟨(some 8), .mv (.tmp 7), none⟩,
       ⟨(some 9), .fa 1 (.tmp 2), (some (8, false))⟩,
       ⟨(some 10), .ldc (.tmp 9), (some (8, false))⟩,
       ⟨(some 11), .bin .eql .prim (.tmp 10) (.const (.str [])), (some (8, false))⟩,
       ⟨(some 12), .pick (.tmp 8) (.const (.bool true)) (.tmp 11), none⟩,
       ⟨(some 13), .mv (.tmp 12), none⟩,
       ⟨(some 14), .fa 1 (.tmp 3), (some (13, true))⟩,
       ⟨(some 15), .ldc (.tmp 14), (some (13, true))⟩,
       ⟨(some 16), .mv (.tmp 15), (some (13, true))⟩,
       ⟨(some 17), .fa 2 (.tmp 2), (some (16, false))⟩,
       ⟨(some 18), .ldc (.tmp 17), (some (16, false))⟩,
       ⟨(some 19), .bin .eql .prim (.tmp 18) (.const (.str [])), (some (16, false))⟩,
       ⟨(some 20), .pick (.tmp 16) (.const (.bool true)) (.tmp 19), (some (13, true))⟩,
       ⟨(some 21), .pick (.tmp 13) (.tmp 20) (.const (.bool false)), none⟩,
       ⟨(some 22), .mv (.tmp 21), none⟩,
       ⟨(some 23), .fa 2 (.tmp 3), (some (22, true))⟩,
       ⟨(some 24), .ldc (.tmp 23), (some (22, true))⟩,
       ⟨(some 25), .mv (.tmp 24), (some (22, true))⟩,
       ⟨(some 26), .mv (.tmp 5), (some (25, false))⟩,
       ⟨(some 27), .fa 3 (.tmp 2), (some (25, false))⟩,
       ⟨(some 28), .lda 4 (.tmp 27), (some (25, false))⟩,
       ⟨(some 29), .call (.tmp 26) [(.inr (.tmp 28))], (some (25, false))⟩,
       ⟨(some 30), .pick (.tmp 25) (.const (.bool true)) (.tmp 29), (some (22, true))⟩,
       ⟨(some 31), .pick (.tmp 22) (.tmp 30) (.const (.bool false)), none⟩,
       ⟨(some 32), .mv (.tmp 31), none⟩,
       ⟨(some 33), .fa 3 (.tmp 3), (some (32, true))⟩,
       ⟨(some 34), .ldc (.tmp 33), (some (32, true))⟩,
       ⟨(some 35), .mv (.tmp 34), (some (32, true))⟩,
       ⟨(some 36), .mv (.tmp 5), (some (35, false))⟩,
       ⟨(some 37), .fa 7 (.tmp 2), (some (35, false))⟩,
       ⟨(some 38), .lda 4 (.tmp 37), (some (35, false))⟩,
       ⟨(some 39), .call (.tmp 36) [(.inr (.tmp 38))], (some (35, false))⟩,
       ⟨(some 40), .pick (.tmp 35) (.const (.bool true)) (.tmp 39), (some (32, true))⟩,
       ⟨(some 41), .pick (.tmp 32) (.tmp 40) (.const (.bool false)), none⟩,
       ⟨(some 42), .mv (.tmp 41), none⟩,
       ⟨(some 43), .fa 4 (.tmp 3), (some (42, true))⟩,
       ⟨(some 44), .ldc (.tmp 43), (some (42, true))⟩,
       ⟨(some 45), .mv (.tmp 44), (some (42, true))⟩,
       ⟨(some 46), .fa 11 (.tmp 2), (some (45, false))⟩,
       ⟨(some 47), .ldc (.tmp 46), (some (45, false))⟩,
       ⟨(some 48), .len .slice (.tmp 47), (some (45, false))⟩,
       ⟨(some 49), .bin .eql .prim (.tmp 48) (.const (.int .i64 0)), (some (45, false))⟩,
       ⟨(some 50), .pick (.tmp 45) (.const (.bool true)) (.tmp 49), (some (42, true))⟩,
       ⟨(some 51), .pick (.tmp 42) (.tmp 50) (.const (.bool false)), none⟩,
       ⟨(some 52), .mv (.tmp 51), none⟩,
       ⟨(some 53), .fa 5 (.tmp 3), (some (52, true))⟩,
       ⟨(some 54), .ldc (.tmp 53), (some (52, true))⟩,
       ⟨(some 55), .mv (.tmp 54), (some (52, true))⟩,
       ⟨(some 56), .fa 12 (.tmp 2), (some (55, false))⟩,
       ⟨(some 57), .lda 6 (.tmp 56), (some (55, false))⟩,
       ⟨(some 58), .build [(.int .i64 0), (.int .i64 0), (.int .i64 0), (.int .i64 0), (.own 1 []), (.own 1 [])] [], (some (55, false))⟩,
       ⟨(some 59), .call (.const (.fn 127 [] [])) [(.inr (.tmp 57)), (.inr (.tmp 58))], (some (55, false))⟩,
       ⟨(some 60), .pick (.tmp 55) (.const (.bool true)) (.tmp 59), (some (52, true))⟩,
       ⟨(some 61), .pick (.tmp 52) (.tmp 60) (.const (.bool false)), none⟩,
       ⟨(some 62), .mv (.tmp 61), none⟩,
       ⟨(some 63), .fa 6 (.tmp 3), (some (62, true))⟩,
       ⟨(some 64), .ldc (.tmp 63), (some (62, true))⟩,
       ⟨(some 65), .mv (.tmp 64), (some (62, true))⟩,
       ⟨(some 66), .fa 18 (.tmp 2), (some (65, false))⟩,
       ⟨(some 67), .ldc (.tmp 66), (some (65, false))⟩,
       ⟨(some 68), .un .not (.tmp 67), (some (65, false))⟩,
       ⟨(some 69), .pick (.tmp 65) (.const (.bool true)) (.tmp 68), (some (62, true))⟩,
       ⟨(some 70), .pick (.tmp 62) (.tmp 69) (.const (.bool false)), none⟩,
       ⟨(some 71), .mv (.tmp 70), none⟩,
       ⟨(some 72), .fa 7 (.tmp 3), (some (71, true))⟩,
       ⟨(some 73), .ldc (.tmp 72), (some (71, true))⟩,
       ⟨(some 74), .mv (.tmp 73), (some (71, true))⟩,
       ⟨(some 75), .fa 19 (.tmp 2), (some (74, false))⟩,
       ⟨(some 76), .ldc (.tmp 75), (some (74, false))⟩,
       ⟨(some 77), .len .slice (.tmp 76), (some (74, false))⟩,
       ⟨(some 78), .bin .eql .prim (.tmp 77) (.const (.int .i64 0)), (some (74, false))⟩,
       ⟨(some 79), .pick (.tmp 74) (.const (.bool true)) (.tmp 78), (some (71, true))⟩,
       ⟨(some 80), .pick (.tmp 71) (.tmp 79) (.const (.bool false)), none⟩,
       ⟨(some 81), .mv (.tmp 80), none⟩,
       ⟨(some 82), .fa 8 (.tmp 3), (some (81, true))⟩,
       ⟨(some 83), .ldc (.tmp 82), (some (81, true))⟩,
       ⟨(some 84), .mv (.tmp 83), (some (81, true))⟩,
       ⟨(some 85), .fa 20 (.tmp 2), (some (84, false))⟩,
       ⟨(some 86), .ldc (.tmp 85), (some (84, false))⟩,
       ⟨(some 87), .len .slice (.tmp 86), (some (84, false))⟩,
       ⟨(some 88), .bin .eql .prim (.tmp 87) (.const (.int .i64 0)), (some (84, false))⟩,
       ⟨(some 89), .pick (.tmp 84) (.const (.bool true)) (.tmp 88), (some (81, true))⟩,
       ⟨(some 90), .pick (.tmp 81) (.tmp 89) (.const (.bool false)), none⟩,
       ⟨(some 4), .take 90, none⟩])
    (.ret)))
def a_stmt_form : AFn := ⟨91, [.tmp 4], c_stmt_form, false⟩
theorem t_stmt_form : cFn Tryz.prog takesW Tryz.f169 = some a_stmt_form := by kernel_rfl
theorem n_stmt_form : (Tryz.f169.name == "runtime.NumGoroutine") = false := by kernel_rfl
def c_stmt_parts_l0b : ACode :=
  .seq (.region false [⟨(some 27), .bin .lss .prim (.tmp 26) (.tmp 25), none⟩])
  (.seq (.cond (.tmp 27) (.skip)
    (.exit 0))
   (.seq (.block 1 (.seq (.region false [⟨(some 28), .ia (.slice 2) (.tmp 24) (.tmp 26), none⟩,
         ⟨(some 29), .lda 2 (.tmp 28), none⟩,
         ⟨(some 6), .mk 202 [(.bool false), (.str [])], none⟩,
         ⟨none, .st 2 (.tmp 6) (.tmp 29), none⟩])
      (.seq (.region false [⟨(some 30), .fa 1 (.tmp 6), none⟩,
          ⟨(some 31), .ldc (.tmp 30), none⟩,
          ⟨(some 32), .call (.const (.fn 26 [] [])) [(.inr (.tmp 31))], none⟩,
          ⟨(some 7), .take 32, none⟩])
       (.seq (.region false [⟨(some 33), .fa 0 (.tmp 6), none⟩,
           ⟨(some 34), .ldc (.tmp 33), none⟩,
           ⟨(some 35), .mv (.tmp 34), none⟩,
           ⟨(some 36), .mv (.tmp 7), (some (35, true))⟩,
           ⟨(some 37), .bin .neq .prim (.tmp 36) (.const (.int .i64 0)), (some (35, true))⟩,
           ⟨(some 38), .pick (.tmp 35) (.tmp 37) (.const (.bool false)), none⟩])
        (.cond (.tmp 38) (.seq (.region false [⟨(some 39), .take 7, none⟩,
             ⟨(some 4), .take 39, none⟩])
          (.ret))
         (.skip))))))
    (.region false [⟨(some 40), .bin .add .prim (.tmp 26) (.const (.int .i64 1)), none⟩,
       ⟨(some 26), .mv (.tmp 40), none⟩])))
def c_stmt_parts_l0 : ACode := .loop c_stmt_parts_l0b
def c_stmt_parts_l2b : ACode :=
  .seq (.region false [⟨(some 54), .bin .lss .prim (.tmp 53) (.tmp 52), none⟩])
  (.seq (.cond (.tmp 54) (.skip)
    (.exit 2))
   (.seq (.block 3 (.seq (.region false [⟨(some 55), .ia (.slice 5) (.tmp 51) (.tmp 53), none⟩,
         ⟨(some 56), .lda 5 (.tmp 55), none⟩,
         ⟨(some 9), .mk 204 [(.bool false), (.int .i64 0), (.str []), (.int .i64 0), (.own 4 [])], none⟩,
         ⟨none, .st 5 (.tmp 9) (.tmp 56), none⟩])
      (.seq (.seq (.region false [⟨(some 57), .fa 0 (.tmp 9), none⟩,
           ⟨(some 58), .ldc (.tmp 57), none⟩,
           ⟨(some 59), .un .not (.tmp 58), none⟩])
        (.cond (.tmp 59) (.exit 3)
         (.skip)))
       (.seq (.region false [⟨(some 60), .fa 1 (.tmp 9), none⟩,
           ⟨(some 61), .lda 4 (.tmp 60), none⟩,
           ⟨(some 62), .call (.const (.fn 181 [] [])) [(.inr (.tmp 61))], none⟩,
           ⟨(some 10), .take 62, none⟩])
        (.seq (.region false [⟨(some 63), .mv (.tmp 10), none⟩,
            ⟨(some 64), .bin .neq .prim (.tmp 63) (.const (.int .i64 0)), none⟩])
         (.cond (.tmp 64) (.seq (.region false [⟨(some 65), .take 10, none⟩,
              ⟨(some 4), .take 65, none⟩])
           (.ret))
          (.skip)))))))
    (.region false [⟨(some 66), .bin .add .prim (.tmp 53) (.const (.int .i64 1)), none⟩,
       ⟨(some 53), .mv (.tmp 66), none⟩])))
def c_stmt_parts_l2 : ACode := .loop c_stmt_parts_l2b
def c_stmt_parts_l4b : ACode :=
  .seq (.region false [⟨(some 75), .bin .lss .prim (.tmp 74) (.tmp 73), none⟩])
  (.seq (.cond (.tmp 75) (.skip)
    (.exit 4))
   (.seq (.block 5 (.seq (.region false [⟨(some 76), .ia (.slice 4) (.tmp 72) (.tmp 74), none⟩,
         ⟨(some 77), .lda 4 (.tmp 76), none⟩,
         ⟨(some 12), .mk 179 [(.int .i64 0), (.str []), (.int .i64 0), (.own 4 [])], none⟩,
         ⟨none, .st 4 (.tmp 12) (.tmp 77), none⟩])
      (.seq (.region false [⟨(some 78), .lda 4 (.tmp 12), none⟩,
          ⟨(some 79), .call (.const (.fn 181 [] [])) [(.inr (.tmp 78))], none⟩,
          ⟨(some 13), .take 79, none⟩])
       (.seq (.region false [⟨(some 80), .mv (.tmp 13), none⟩,
           ⟨(some 81), .bin .neq .prim (.tmp 80) (.const (.int .i64 0)), none⟩])
        (.cond (.tmp 81) (.seq (.region false [⟨(some 82), .take 13, none⟩,
             ⟨(some 4), .take 82, none⟩])
          (.ret))
         (.skip))))))
    (.region false [⟨(some 83), .bin .add .prim (.tmp 74) (.const (.int .i64 1)), none⟩,
       ⟨(some 74), .mv (.tmp 83), none⟩])))
def c_stmt_parts_l4 : ACode := .loop c_stmt_parts_l4b
def c_stmt_parts_j5 : ACode :=
  .seq (.seq (.region false [⟨(some 84), .fa 5 (.tmp 3), none⟩,
      ⟨(some 85), .ldc (.tmp 84), none⟩])
   (.cond (.tmp 85) (.seq (.region false [⟨(some 86), .fa 12 (.tmp 2), none⟩,
        ⟨(some 87), .lda 6 (.tmp 86), none⟩,
        ⟨(some 88), .call (.const (.fn 129 [] [])) [(.inr (.tmp 87))], none⟩,
        ⟨(some 4), .take 88, none⟩])
     (.ret))
    (.skip)))
  (.seq (.region false [⟨(some 4), .mv (.const (.int .i64 0)), none⟩])
   (.ret))
def c_stmt_parts_j3 : ACode :=
  .seq (.seq (.region false [⟨(some 67), .fa 11 (.tmp 2), none⟩,
      ⟨(some 68), .ldc (.tmp 67), none⟩,
      ⟨(some 69), .len .slice (.tmp 68), none⟩,
      ⟨(some 70), .bin .gtr .prim (.tmp 69) (.const (.int .i64 6)), none⟩])
   (.cond (.tmp 70) (.seq (.region false [⟨(some 4), .mv (.const (.int .i64 6)), none⟩])
     (.ret))
    (.skip)))
  (.seq (.seq (.region false [⟨(some 71), .fa 11 (.tmp 2), none⟩,
       ⟨(some 72), .ldc (.tmp 71), none⟩,
       ⟨(some 73), .len .slice (.tmp 72), none⟩,
       ⟨(some 74), .mv (.const (.int .i64 0)), none⟩])
    (.block 4 (c_stmt_parts_l4)))
   c_stmt_parts_j5)
def c_stmt_parts_j1 : ACode :=
  .seq (.seq (.region false [⟨(some 41), .fa 2 (.tmp 3), none⟩,
      ⟨(some 42), .ldc (.tmp 41), none⟩,
      ⟨(some 43), .fa 3 (.tmp 2), none⟩,
      ⟨(some 44), .lda 4 (.tmp 43), none⟩,
      ⟨(some 45), .build [(.bool false), (.int .i64 0), (.str []), (.int .i64 0), (.own 4 [])] [(0, 1, (.tmp 42)), (1, 4, (.tmp 44))], none⟩,
      ⟨(some 46), .fa 3 (.tmp 3), none⟩,
      ⟨(some 47), .ldc (.tmp 46), none⟩,
      ⟨(some 48), .fa 7 (.tmp 2), none⟩,
      ⟨(some 49), .lda 4 (.tmp 48), none⟩,
      ⟨(some 50), .build [(.bool false), (.int .i64 0), (.str []), (.int .i64 0), (.own 4 [])] [(0, 1, (.tmp 47)), (1, 4, (.tmp 49))], none⟩,
      ⟨(some 51), .lit 204 5 [(.tmp 45), (.tmp 50)], none⟩,
      ⟨(some 52), .len .slice (.tmp 51), none⟩,
      ⟨(some 53), .mv (.const (.int .i64 0)), none⟩])
   (.block 2 (c_stmt_parts_l2)))
  c_stmt_parts_j3
/-- simulator/stmt.parts -/
def c_stmt_parts : ACode :=
  .seq (.region false [⟨(some 2), .box 181 21 (.tmp 0), none⟩,
     ⟨(some 3), .box 194 9 (.tmp 1), none⟩,
     ⟨(some 4), .mv (.const (.int .i64 0)), none⟩])
  (.seq (.seq (.region false [⟨(some 14), .fa 0 (.tmp 3), none⟩,
       ⟨(some 15), .ldc (.tmp 14), none⟩,
       ⟨(some 16), .fa 1 (.tmp 2), none⟩,
       ⟨(some 17), .ldc (.tmp 16), none⟩,
       ⟨(some 18), .build [(.bool false), (.str [])] [(0, 1, (.tmp 15)), (1, 1, (.tmp 17))], none⟩,
       ⟨(some 19), .fa 1 (.tmp 3), none⟩,
       ⟨(some 20), .ldc (.tmp 19), none⟩,
       ⟨(some 21), .fa 2 (.tmp 2), none⟩,
       ⟨(some 22), .ldc (.tmp 21), none⟩,
       ⟨(some 23), .build [(.bool false), (.str [])] [(0, 1, (.tmp 20)), (1, 1, (.tmp 22))], none⟩,
       ⟨(some 24), .lit 202 2 [(.tmp 18), (.tmp 23)], none⟩,
       ⟨(some 25), .len .slice (.tmp 24), none⟩,
       ⟨(some 26), .mv (.const (.int .i64 0)), none⟩])
    (.block 0 (c_stmt_parts_l0)))
   c_stmt_parts_j1)
def a_stmt_parts : AFn := ⟨89, [.tmp 4], c_stmt_parts, false⟩
theorem t_stmt_parts : cFn Tryz.prog takesW Tryz.f170 = some a_stmt_parts := by kernel_rfl
theorem n_stmt_parts : (Tryz.f170.name == "runtime.NumGoroutine") = false := by kernel_rfl
/-- simulator/model.term$1 -/
def c_model_term_1 : ACode :=
  .seq (.region false [⟨(some 2), .box 95 3 (.tmp 0), none⟩,
     ⟨(some 3), .mv (.const (.bool false)), none⟩])
  (.seq (.region false [⟨(some 4), .fa 0 (.tmp 2), none⟩,
      ⟨(some 5), .ldc (.tmp 4), none⟩,
      ⟨(some 6), .fa 2 (.tmp 1), none⟩,
      ⟨(some 7), .ldc (.tmp 6), none⟩,
      ⟨(some 8), .bin .eql .prim (.tmp 5) (.tmp 7), none⟩,
      ⟨(some 3), .take 8, none⟩])
   (.ret))
def a_model_term_1 : AFn := ⟨9, [.tmp 3], c_model_term_1, false⟩
theorem t_model_term_1 : cFn Tryz.prog takesW Tryz.f158 = some a_model_term_1 := by kernel_rfl
theorem n_model_term_1 : (Tryz.f158.name == "runtime.NumGoroutine") = false := by kernel_rfl
/-- slices.ContainsFunc[[]simulator/api.StoreDecl,simulator/api.StoreDecl] -/
def c_slices_ContainsFunc_Lapi_StoreDecl_api_StoreDecl_ : ACode :=
  .seq (.region false [⟨(some 4), .mv (.const (.bool false)), none⟩])
  (.seq (.region false [⟨(some 5), .mv (.tmp 0), none⟩,
      ⟨(some 6), .mv (.tmp 1), none⟩,
      ⟨(some 7), .call (.const (.fn 103 [] [])) [(.inr (.tmp 5)), (.inr (.tmp 6))], none⟩,
      ⟨(some 8), .bin .geq .prim (.tmp 7) (.const (.int .i64 0)), none⟩,
      ⟨(some 4), .take 8, none⟩])
   (.ret))
def a_slices_ContainsFunc_Lapi_StoreDecl_api_StoreDecl_ : AFn := ⟨9, [.tmp 4], c_slices_ContainsFunc_Lapi_StoreDecl_api_StoreDecl_, false⟩
theorem t_slices_ContainsFunc_Lapi_StoreDecl_api_StoreDecl_ : cFn Tryz.prog takesW Tryz.f157 = some a_slices_ContainsFunc_Lapi_StoreDecl_api_StoreDecl_ := by kernel_rfl
theorem n_slices_ContainsFunc_Lapi_StoreDecl_api_StoreDecl_ : (Tryz.f157.name == "runtime.NumGoroutine") = false := by kernel_rfl
def c_slices_IndexFunc_Lint_int__l0b : ACode :=
  .seq (.region false [⟨(some 9), .bin .lss .prim (.tmp 8) (.tmp 7), none⟩])
  (.seq (.cond (.tmp 9) (.skip)
    (.exit 0))
   (.seq (.block 1 (.seq (.region false [⟨(some 10), .mv (.tmp 8), none⟩,
         ⟨(some 5), .take 10, none⟩])
      (.seq (.region false [⟨(some 11), .mv (.tmp 1), none⟩,
          ⟨(some 12), .mv (.tmp 0), none⟩,
          ⟨(some 13), .mv (.tmp 5), none⟩,
          ⟨(some 14), .ia (.slice 1) (.tmp 12) (.tmp 13), none⟩,
          ⟨(some 15), .ldc (.tmp 14), none⟩,
          ⟨(some 16), .call (.tmp 11) [(.inr (.tmp 15))], none⟩])
       (.cond (.tmp 16) (.seq (.region false [⟨(some 17), .take 5, none⟩,
            ⟨(some 4), .take 17, none⟩])
         (.ret))
        (.skip)))))
    (.region false [⟨(some 18), .bin .add .prim (.tmp 8) (.const (.int .i64 1)), none⟩,
       ⟨(some 8), .mv (.tmp 18), none⟩])))
def c_slices_IndexFunc_Lint_int__l0 : ACode := .loop c_slices_IndexFunc_Lint_int__l0b
def c_slices_IndexFunc_Lint_int__j1 : ACode :=
  .seq (.region false [⟨(some 4), .mv (.const (.int .i64 (-1))), none⟩])
  (.ret)
/-- slices.IndexFunc[[]int,int] -/
def c_slices_IndexFunc_Lint_int_ : ACode :=
  .seq (.region false [⟨(some 4), .mv (.const (.int .i64 0)), none⟩])
  (.seq (.seq (.region false [⟨(some 6), .mv (.tmp 0), none⟩,
       ⟨(some 7), .len .slice (.tmp 6), none⟩,
       ⟨(some 8), .mv (.const (.int .i64 0)), none⟩])
    (.block 0 (c_slices_IndexFunc_Lint_int__l0)))
   c_slices_IndexFunc_Lint_int__j1)
def a_slices_IndexFunc_Lint_int_ : AFn := ⟨19, [.tmp 4], c_slices_IndexFunc_Lint_int_, false⟩
theorem t_slices_IndexFunc_Lint_int_ : cFn Tryz.prog takesW Tryz.f179 = some a_slices_IndexFunc_Lint_int_ := by kernel_rfl
theorem n_slices_IndexFunc_Lint_int_ : (Tryz.f179.name == "runtime.NumGoroutine") = false := by kernel_rfl
/-- simulator/stmt.form$1 -/
def c_stmt_form_1 : ACode :=
  .seq (.region false [⟨(some 1), .box 179 4 (.tmp 0), none⟩,
     ⟨(some 2), .mv (.const (.bool false)), none⟩])
  (.seq (.region false [⟨(some 3), .lda 4 (.tmp 1), none⟩,
      ⟨(some 4), .build [(.int .i64 0), (.str []), (.int .i64 0), (.own 4 [])] [], none⟩,
      ⟨(some 5), .call (.const (.fn 177 [] [])) [(.inr (.tmp 3)), (.inr (.tmp 4))], none⟩,
      ⟨(some 2), .take 5, none⟩])
   (.ret))
def a_stmt_form_1 : AFn := ⟨6, [.tmp 2], c_stmt_form_1, false⟩
theorem t_stmt_form_1 : cFn Tryz.prog takesW Tryz.f180 = some a_stmt_form_1 := by kernel_rfl
theorem n_stmt_form_1 : (Tryz.f180.name == "runtime.NumGoroutine") = false := by kernel_rfl
/-- simulator/expr.Check -/
def c_expr_Check : ACode :=
  .seq (.region false [⟨(some 1), .box 179 4 (.tmp 0), none⟩,
     ⟨(some 2), .mv (.const (.int .i64 0)), none⟩])
  (.seq (.region false [⟨(some 3), .build [(.bool false)] [], none⟩,
      ⟨(some 4), .lda 4 (.tmp 1), none⟩,
      ⟨(some 5), .call (.const (.fn 183 [] [])) [(.inr (.tmp 3)), (.inr (.tmp 4))], none⟩,
      ⟨(some 2), .take 5, none⟩])
   (.ret))
def a_expr_Check : AFn := ⟨6, [.tmp 2], c_expr_Check, false⟩
theorem t_expr_Check : cFn Tryz.prog takesW Tryz.f181 = some a_expr_Check := by kernel_rfl
theorem n_expr_Check : (Tryz.f181.name == "runtime.NumGoroutine") = false := by kernel_rfl
/-- (simulator/expr.kind).check -/
def c__expr_kind__check : ACode :=
  .seq (.region false [⟨(some 2), .box 209 1 (.tmp 0), none⟩,
     ⟨(some 3), .box 179 4 (.tmp 1), none⟩,
     ⟨(some 4), .mv (.const (.int .i64 0)), none⟩])
  (.seq (.block 0 (.seq (.region false [⟨(some 6), .lda 4 (.tmp 3), none⟩,
        ⟨(some 7), .call (.const (.fn 187 [] [])) [(.inr (.tmp 6))], none⟩,
        ⟨(some 8), .bin .gtr .prim (.tmp 7) (.const (.int .i64 60)), none⟩,
        ⟨(some 5), .take 8, none⟩])
     (.cond (.tmp 5) (.seq (.region false [⟨(some 4), .mv (.const (.int .i64 6)), none⟩])
       (.ret))
      (.seq (.region false [⟨(some 10), .lda 4 (.tmp 3), none⟩,
          ⟨(some 11), .call (.const (.fn 188 [] [])) [(.inr (.tmp 10))], none⟩,
          ⟨(some 12), .bin .gtr .prim (.tmp 11) (.const (.int .i64 12)), none⟩,
          ⟨(some 9), .take 12, none⟩])
       (.cond (.tmp 9) (.seq (.region false [⟨(some 4), .mv (.const (.int .i64 11)), none⟩])
         (.ret))
        (.skip))))))
   (.seq (.region false [⟨(some 13), .lda 1 (.tmp 2), none⟩,
       ⟨(some 14), .lda 4 (.tmp 3), none⟩,
       ⟨(some 15), .call (.const (.fn 189 [] [])) [(.inr (.tmp 13)), (.inr (.tmp 14))], none⟩,
       ⟨(some 4), .take 15, none⟩])
    (.ret)))
def a__expr_kind__check : AFn := ⟨16, [.tmp 4], c__expr_kind__check, false⟩
theorem t__expr_kind__check : cFn Tryz.prog takesW Tryz.f183 = some a__expr_kind__check := by kernel_rfl
theorem n__expr_kind__check : (Tryz.f183.name == "runtime.NumGoroutine") = false := by kernel_rfl
def c_expr_Nodes_l0b : ACode :=
  .seq (.region false [⟨(some 10), .bin .lss .prim (.tmp 9) (.tmp 8), none⟩])
  (.seq (.cond (.tmp 10) (.skip)
    (.exit 0))
   (.seq (.block 1 (.seq (.region false [⟨(some 11), .ia (.slice 4) (.tmp 7) (.tmp 9), none⟩,
         ⟨(some 12), .lda 4 (.tmp 11), none⟩,
         ⟨(some 5), .mk 179 [(.int .i64 0), (.str []), (.int .i64 0), (.own 4 [])], none⟩,
         ⟨none, .st 4 (.tmp 5) (.tmp 12), none⟩])
      (.region false [⟨(some 13), .mv (.tmp 3), none⟩,
         ⟨(some 14), .lda 4 (.tmp 5), none⟩,
         ⟨(some 15), .call (.const (.fn 187 [] [])) [(.inr (.tmp 14))], none⟩,
         ⟨(some 16), .bin .add .prim (.tmp 13) (.tmp 15), none⟩,
         ⟨(some 3), .take 16, none⟩])))
    (.region false [⟨(some 17), .bin .add .prim (.tmp 9) (.const (.int .i64 1)), none⟩,
       ⟨(some 9), .mv (.tmp 17), none⟩])))
def c_expr_Nodes_l0 : ACode := .loop c_expr_Nodes_l0b
def c_expr_Nodes_j1 : ACode :=
  .seq (.region false [⟨(some 18), .take 3, none⟩,
     ⟨(some 2), .take 18, none⟩])
  (.ret)
/-- simulator/expr.Nodes -/
def c_expr_Nodes : ACode :=
  .seq (.region false [⟨(some 1), .box 179 4 (.tmp 0), none⟩,
     ⟨(some 2), .mv (.const (.int .i64 0)), none⟩])
  (.seq (.region false [⟨(some 3), .mv (.const (.int .i64 1)), none⟩])
   (.seq (.seq (.region false [⟨(some 6), .fa 3 (.tmp 1), none⟩,
        ⟨(some 7), .ldc (.tmp 6), none⟩,
        ⟨(some 8), .len .slice (.tmp 7), none⟩,
        ⟨(some 9), .mv (.const (.int .i64 0)), none⟩])
     (.block 0 (c_expr_Nodes_l0)))
    c_expr_Nodes_j1))
def a_expr_Nodes : AFn := ⟨19, [.tmp 2], c_expr_Nodes, false⟩
theorem t_expr_Nodes : cFn Tryz.prog takesW Tryz.f187 = some a_expr_Nodes := by kernel_rfl
theorem n_expr_Nodes : (Tryz.f187.name == "runtime.NumGoroutine") = false := by kernel_rfl
def c_expr_Depth_l0b : ACode :=
  .seq (.region false [⟨(some 10), .bin .lss .prim (.tmp 9) (.tmp 8), none⟩])
  (.seq (.cond (.tmp 10) (.skip)
    (.exit 0))
   (.seq (.block 1 (.seq (.region false [⟨(some 11), .ia (.slice 4) (.tmp 7) (.tmp 9), none⟩,
         ⟨(some 12), .lda 4 (.tmp 11), none⟩,
         ⟨(some 5), .mk 179 [(.int .i64 0), (.str []), (.int .i64 0), (.own 4 [])], none⟩,
         ⟨none, .st 4 (.tmp 5) (.tmp 12), none⟩])
      (.region false [⟨(some 13), .mv (.tmp 3), none⟩,
         ⟨(some 14), .lda 4 (.tmp 5), none⟩,
         ⟨(some 15), .call (.const (.fn 188 [] [])) [(.inr (.tmp 14))], none⟩,
         ⟨(some 16), .max [(.tmp 13), (.tmp 15)], none⟩,
         ⟨(some 3), .take 16, none⟩])))
    (.region false [⟨(some 17), .bin .add .prim (.tmp 9) (.const (.int .i64 1)), none⟩,
       ⟨(some 9), .mv (.tmp 17), none⟩])))
def c_expr_Depth_l0 : ACode := .loop c_expr_Depth_l0b
def c_expr_Depth_j1 : ACode :=
  .seq (.region false [⟨(some 18), .mv (.tmp 3), none⟩,
     ⟨(some 19), .bin .add .prim (.tmp 18) (.const (.int .i64 1)), none⟩,
     ⟨(some 2), .take 19, none⟩])
  (.ret)
/-- simulator/expr.Depth -/
def c_expr_Depth : ACode :=
  .seq (.region false [⟨(some 1), .box 179 4 (.tmp 0), none⟩,
     ⟨(some 2), .mv (.const (.int .i64 0)), none⟩])
  (.seq (.region false [⟨(some 3), .mv (.const (.int .i64 0)), none⟩])
   (.seq (.seq (.region false [⟨(some 6), .fa 3 (.tmp 1), none⟩,
        ⟨(some 7), .ldc (.tmp 6), none⟩,
        ⟨(some 8), .len .slice (.tmp 7), none⟩,
        ⟨(some 9), .mv (.const (.int .i64 0)), none⟩])
     (.block 0 (c_expr_Depth_l0)))
    c_expr_Depth_j1))
def a_expr_Depth : AFn := ⟨20, [.tmp 2], c_expr_Depth, false⟩
theorem t_expr_Depth : cFn Tryz.prog takesW Tryz.f188 = some a_expr_Depth := by kernel_rfl
theorem n_expr_Depth : (Tryz.f188.name == "runtime.NumGoroutine") = false := by kernel_rfl
def c__expr_kind__nodes_l0b : ACode :=
  .seq (.region false [⟨(some 19), .bin .lss .prim (.tmp 18) (.tmp 17), none⟩])
  (.seq (.cond (.tmp 19) (.skip)
    (.exit 0))
   (.seq (.block 1 (.seq (.region false [⟨(some 20), .ia (.slice 4) (.tmp 16) (.tmp 18), none⟩,
         ⟨(some 21), .lda 4 (.tmp 20), none⟩,
         ⟨(some 7), .mk 179 [(.int .i64 0), (.str []), (.int .i64 0), (.own 4 [])], none⟩,
         ⟨none, .st 4 (.tmp 7) (.tmp 21), none⟩])
      (.seq (.region false [⟨(some 22), .lda 1 (.tmp 2), none⟩,
          ⟨(some 23), .lda 4 (.tmp 7), none⟩,
          ⟨(some 24), .call (.const (.fn 189 [] [])) [(.inr (.tmp 22)), (.inr (.tmp 23))], none⟩,
          ⟨(some 8), .take 24, none⟩])
       (.seq (.region false [⟨(some 25), .mv (.tmp 8), none⟩,
           ⟨(some 26), .bin .neq .prim (.tmp 25) (.const (.int .i64 0)), none⟩])
        (.cond (.tmp 26) (.seq (.region false [⟨(some 27), .take 8, none⟩,
             ⟨(some 4), .take 27, none⟩])
          (.ret))
         (.skip))))))
    (.region false [⟨(some 28), .bin .add .prim (.tmp 18) (.const (.int .i64 1)), none⟩,
       ⟨(some 18), .mv (.tmp 28), none⟩])))
def c__expr_kind__nodes_l0 : ACode := .loop c__expr_kind__nodes_l0b
def c__expr_kind__nodes_j1 : ACode :=
  .seq (.region false [⟨(some 4), .mv (.const (.int .i64 0)), none⟩])
  (.ret)
/-- (simulator/expr.kind).nodes -/
def c__expr_kind__nodes : ACode :=
  .seq (.region false [⟨(some 2), .box 209 1 (.tmp 0), none⟩,
     ⟨(some 3), .box 179 4 (.tmp 1), none⟩,
     ⟨(some 4), .mv (.const (.int .i64 0)), none⟩])
  (.seq (.seq (.region false [⟨(some 9), .lda 1 (.tmp 2), none⟩,
       ⟨(some 10), .lda 4 (.tmp 3), none⟩,
       ⟨(some 11), .call (.const (.fn 192 [] [])) [(.inr (.tmp 9)), (.inr (.tmp 10))], none⟩,
       ⟨(some 5), .take 11, none⟩])
    (.seq (.region false [⟨(some 12), .mv (.tmp 5), none⟩,
        ⟨(some 13), .bin .neq .prim (.tmp 12) (.const (.int .i64 0)), none⟩])
     (.cond (.tmp 13) (.seq (.region false [⟨(some 14), .take 5, none⟩,
          ⟨(some 4), .take 14, none⟩])
       (.ret))
      (.skip))))
   (.seq (.seq (.region false [⟨(some 15), .fa 3 (.tmp 3), none⟩,
        ⟨(some 16), .ldc (.tmp 15), none⟩,
        ⟨(some 17), .len .slice (.tmp 16), none⟩,
        ⟨(some 18), .mv (.const (.int .i64 0)), none⟩])
     (.block 0 (c__expr_kind__nodes_l0)))
    c__expr_kind__nodes_j1))
def a__expr_kind__nodes : AFn := ⟨29, [.tmp 4], c__expr_kind__nodes, false⟩
theorem t__expr_kind__nodes : cFn Tryz.prog takesW Tryz.f189 = some a__expr_kind__nodes := by kernel_rfl
theorem n__expr_kind__nodes : (Tryz.f189.name == "runtime.NumGoroutine") = false := by kernel_rfl
/-- (simulator/expr.kind).node -/
def c__expr_kind__node : ACode :=
  .seq (.region false [⟨(some 2), .box 209 1 (.tmp 0), none⟩,
     ⟨(some 3), .box 179 4 (.tmp 1), none⟩,
     ⟨(some 4), .mv (.const (.int .i64 0)), none⟩])
  (.seq (.seq (.region true [⟨(some 8), .lda 1 (.tmp 2), none⟩,
       ⟨(some 9), .fa 0 (.tmp 3), none⟩,
       ⟨(some 10), .ldc (.tmp 9), none⟩,
       ⟨(some 11), .call (.const (.fn 194 [] [])) [(.inr (.tmp 8)), (.inr (.tmp 10))], none⟩,
       ⟨(some 12), .un .not (.tmp 11), none⟩,
       ⟨(some 13), .mv (.tmp 12), none⟩,
       ⟨(some 14), .fa 3 (.tmp 3), (some (13, false))⟩,
       ⟨(some 15), .ldc (.tmp 14), (some (13, false))⟩,
       ⟨(some 16), .len .slice (.tmp 15), (some (13, false))⟩,
       ⟨(some 17), .fa 0 (.tmp 3), (some (13, false))⟩,
       ⟨(some 18), .ldc (.tmp 17), (some (13, false))⟩,
       ⟨(some 19), .call (.const (.fn 195 [] [])) [(.inr (.tmp 18))], (some (13, false))⟩,
       ⟨(some 20), .bin .neq .prim (.tmp 16) (.tmp 19), (some (13, false))⟩,
       ⟨(some 21), .pick (.tmp 13) (.const (.bool true)) (.tmp 20), none⟩,
       ⟨(some 22), .mv (.tmp 21), none⟩,
       ⟨(some 23), .fa 1 (.tmp 3), (some (22, false))⟩,
       ⟨(some 24), .ldc (.tmp 23), (some (22, false))⟩,
       ⟨(some 25), .bin .neq .prim (.tmp 24) (.const (.str [])), (some (22, false))⟩,
       ⟨(some 26), .mv (.tmp 25), (some (22, false))⟩,
       ⟨(some 27), .lda 1 (.tmp 2), (some (26, true))⟩,
       ⟨(some 28), .fa 0 (.tmp 3), (some (26, true))⟩,
       ⟨(some 29), .ldc (.tmp 28), (some (26, true))⟩,
       ⟨(some 30), .call (.const (.fn 196 [] [])) [(.inr (.tmp 27)), (.inr (.tmp 29))], (some (26, true))⟩,
       ⟨(some 31), .un .not (.tmp 30), (some (26, true))⟩,
       ⟨(some 32), .pick (.tmp 26) (.tmp 31) (.const (.bool false)), (some (22, false))⟩,
       ⟨(some 33), .pick (.tmp 22) (.const (.bool true)) (.tmp 32), none⟩])
    (.cond (.tmp 33) (.seq (.region false [⟨(some 4), .mv (.const (.int .i64 1)), none⟩])
      (.ret))
     (.skip)))
   (.seq (.seq (.region false [⟨(some 34), .fa 0 (.tmp 3), none⟩,
        ⟨(some 35), .ldc (.tmp 34), none⟩,
        ⟨(some 36), .bin .eql .prim (.tmp 35) (.const (.int .i64 1)), none⟩])
     (.cond (.tmp 36) (.seq (.seq (.region false [⟨(some 37), .fa 2 (.tmp 3), none⟩,
           ⟨(some 38), .ldc (.tmp 37), none⟩,
           ⟨(some 39), .call (.const (.fn 137 [] [])) [(.inr (.tmp 38))], none⟩,
           ⟨(some 40), .un .not (.tmp 39), none⟩])
        (.cond (.tmp 40) (.seq (.region false [⟨(some 4), .mv (.const (.int .i64 2)), none⟩])
          (.ret))
         (.skip)))
       (.seq (.region false [⟨(some 4), .mv (.const (.int .i64 0)), none⟩])
        (.ret)))
      (.skip)))
    (.seq (.region false [⟨(some 42), .lda 1 (.tmp 2), none⟩,
        ⟨(some 43), .fa 0 (.tmp 3), none⟩,
        ⟨(some 44), .ldc (.tmp 43), none⟩,
        ⟨(some 45), .call (.const (.fn 197 [] [])) [(.inr (.tmp 42)), (.inr (.tmp 44))], none⟩,
        ⟨(some 41), .mv (.tmp 45), none⟩,
        ⟨(some 46), .extract (.tmp 41) 0, none⟩,
        ⟨(some 47), .extract (.tmp 41) 1, none⟩,
        ⟨(some 48), .extract (.tmp 41) 2, none⟩,
        ⟨(some 5), .take 46, none⟩,
        ⟨(some 6), .take 47, none⟩,
        ⟨(some 7), .take 48, none⟩])
     (.seq (.block 0 (.seq (.region false [⟨(some 50), .mv (.tmp 7), none⟩,
           ⟨(some 51), .un .not (.tmp 50), none⟩,
           ⟨(some 52), .mv (.tmp 51), none⟩,
           ⟨(some 53), .fa 2 (.tmp 3), (some (52, true))⟩,
           ⟨(some 54), .ldc (.tmp 53), (some (52, true))⟩,
           ⟨(some 55), .bin .neq .prim (.tmp 54) (.const (.int .i64 0)), (some (52, true))⟩,
           ⟨(some 56), .pick (.tmp 52) (.tmp 55) (.const (.bool false)), none⟩,
           ⟨(some 49), .take 56, none⟩])
        (.cond (.tmp 49) (.seq (.region false [⟨(some 4), .mv (.const (.int .i64 1)), none⟩])
          (.ret))
         (.seq (.region false [⟨(some 58), .mv (.tmp 7), none⟩,
             ⟨(some 59), .mv (.tmp 58), none⟩,
             ⟨(some 60), .fa 2 (.tmp 3), (some (59, true))⟩,
             ⟨(some 61), .ldc (.tmp 60), (some (59, true))⟩,
             ⟨(some 62), .mv (.tmp 5), (some (59, true))⟩,
             ⟨(some 63), .bin .lss .prim (.tmp 61) (.tmp 62), (some (59, true))⟩,
             ⟨(some 64), .mv (.tmp 63), (some (59, true))⟩,
             ⟨(some 65), .fa 2 (.tmp 3), (some (64, false))⟩,
             ⟨(some 66), .ldc (.tmp 65), (some (64, false))⟩,
             ⟨(some 67), .mv (.tmp 6), (some (64, false))⟩,
             ⟨(some 68), .bin .gtr .prim (.tmp 66) (.tmp 67), (some (64, false))⟩,
             ⟨(some 69), .pick (.tmp 64) (.const (.bool true)) (.tmp 68), (some (59, true))⟩,
             ⟨(some 70), .pick (.tmp 59) (.tmp 69) (.const (.bool false)), none⟩,
             ⟨(some 57), .take 70, none⟩])
          (.cond (.tmp 57) (.seq (.region false [⟨(some 4), .mv (.const (.int .i64 2)), none⟩])
            (.ret))
           (.seq (.region false [⟨(some 72), .lda 1 (.tmp 2), none⟩,
               ⟨(some 73), .fa 0 (.tmp 3), none⟩,
               ⟨(some 74), .ldc (.tmp 73), none⟩,
               ⟨(some 75), .call (.const (.fn 196 [] [])) [(.inr (.tmp 72)), (.inr (.tmp 74))], none⟩,
               ⟨(some 71), .take 75, none⟩])
            (.cond (.tmp 71) (.seq (.region false [⟨(some 76), .fa 1 (.tmp 3), none⟩,
                 ⟨(some 77), .ldc (.tmp 76), none⟩,
                 ⟨(some 78), .call (.const (.fn 26 [] [])) [(.inr (.tmp 77))], none⟩,
                 ⟨(some 4), .take 78, none⟩])
              (.ret))
             (.skip))))))))
      (.seq (.region false [⟨(some 4), .mv (.const (.int .i64 0)), none⟩])
       (.ret))))))
def a__expr_kind__node : AFn := ⟨79, [.tmp 4], c__expr_kind__node, false⟩
theorem t__expr_kind__node : cFn Tryz.prog takesW Tryz.f192 = some a__expr_kind__node := by kernel_rfl
theorem n__expr_kind__node : (Tryz.f192.name == "runtime.NumGoroutine") = false := by kernel_rfl
/-- (simulator/expr.kind).known -/
def c__expr_kind__known : ACode :=
  .seq (.region false [⟨(some 2), .box 209 1 (.tmp 0), none⟩,
     ⟨(some 4), .mv (.const (.bool false)), none⟩])
  (.seq (.seq (.region false [⟨(some 5), .mv (.tmp 1), none⟩])
    (.block 0 (.seq (.region false [⟨(some 7), .bin .eql .prim (.tmp 5) (.const (.int .i64 3)), none⟩,
         ⟨(some 6), .take 7, none⟩])
      (.cond (.tmp 6) (.seq (.region false [⟨(some 8), .fa 0 (.tmp 2), none⟩,
           ⟨(some 9), .ldc (.tmp 8), none⟩,
           ⟨(some 10), .un .not (.tmp 9), none⟩,
           ⟨(some 4), .take 10, none⟩])
        (.ret))
       (.seq (.seq (.region false [⟨(some 12), .bin .eql .prim (.tmp 5) (.const (.int .i64 25)), none⟩,
            ⟨(some 11), .take 12, none⟩])
         (.cond (.tmp 11) (.skip)
          (.region false [⟨(some 13), .bin .eql .prim (.tmp 5) (.const (.int .i64 26)), none⟩,
             ⟨(some 11), .take 13, none⟩])))
        (.cond (.tmp 11) (.seq (.region false [⟨(some 14), .fa 0 (.tmp 2), none⟩,
             ⟨(some 15), .ldc (.tmp 14), none⟩,
             ⟨(some 4), .take 15, none⟩])
          (.ret))
         (.skip)))))))
   (.seq (.region false [⟨(some 16), .mv (.tmp 1), none⟩,
       ⟨(some 17), .call (.const (.fn 195 [] [])) [(.inr (.tmp 16))], none⟩,
       ⟨(some 18), .bin .geq .prim (.tmp 17) (.const (.int .i64 0)), none⟩,
       ⟨(some 4), .take 18, none⟩])
    (.ret)))
def a__expr_kind__known : AFn := ⟨19, [.tmp 4], c__expr_kind__known, false⟩
theorem t__expr_kind__known : cFn Tryz.prog takesW Tryz.f194 = some a__expr_kind__known := by kernel_rfl
theorem n__expr_kind__known : (Tryz.f194.name == "runtime.NumGoroutine") = false := by kernel_rfl
/-- simulator/expr.kids -/
def c_expr_kids : ACode :=
  .seq (.region false [⟨(some 2), .mv (.const (.int .i64 0)), none⟩])
  (.seq (.block 0 (.seq (.region false [⟨(some 4), .mv (.tmp 0), none⟩,
        ⟨(some 5), .bin .eql .prim (.tmp 4) (.const (.int .i64 1)), none⟩,
        ⟨(some 6), .mv (.tmp 5), none⟩,
        ⟨(some 7), .mv (.tmp 0), (some (6, false))⟩,
        ⟨(some 8), .bin .eql .prim (.tmp 7) (.const (.int .i64 2)), (some (6, false))⟩,
        ⟨(some 9), .pick (.tmp 6) (.const (.bool true)) (.tmp 8), none⟩,
        ⟨(some 10), .mv (.tmp 9), none⟩,
        ⟨(some 11), .mv (.tmp 0), (some (10, false))⟩,
        ⟨(some 12), .bin .eql .prim (.tmp 11) (.const (.int .i64 3)), (some (10, false))⟩,
        ⟨(some 13), .pick (.tmp 10) (.const (.bool true)) (.tmp 12), none⟩,
        ⟨(some 14), .mv (.tmp 13), none⟩,
        ⟨(some 15), .mv (.tmp 0), (some (14, false))⟩,
        ⟨(some 16), .bin .eql .prim (.tmp 15) (.const (.int .i64 4)), (some (14, false))⟩,
        ⟨(some 17), .pick (.tmp 14) (.const (.bool true)) (.tmp 16), none⟩,
        ⟨(some 3), .take 17, none⟩])
     (.cond (.tmp 3) (.seq (.region false [⟨(some 2), .mv (.const (.int .i64 0)), none⟩])
       (.ret))
      (.seq (.region false [⟨(some 19), .mv (.tmp 0), none⟩,
          ⟨(some 20), .bin .geq .prim (.tmp 19) (.const (.int .i64 5)), none⟩,
          ⟨(some 21), .mv (.tmp 20), none⟩,
          ⟨(some 22), .mv (.tmp 0), (some (21, true))⟩,
          ⟨(some 23), .bin .leq .prim (.tmp 22) (.const (.int .i64 8)), (some (21, true))⟩,
          ⟨(some 24), .pick (.tmp 21) (.tmp 23) (.const (.bool false)), none⟩,
          ⟨(some 18), .take 24, none⟩])
       (.cond (.tmp 18) (.seq (.region false [⟨(some 2), .mv (.const (.int .i64 1)), none⟩])
         (.ret))
        (.seq (.region false [⟨(some 26), .mv (.tmp 0), none⟩,
            ⟨(some 27), .bin .geq .prim (.tmp 26) (.const (.int .i64 9)), none⟩,
            ⟨(some 28), .mv (.tmp 27), none⟩,
            ⟨(some 29), .mv (.tmp 0), (some (28, true))⟩,
            ⟨(some 30), .bin .leq .prim (.tmp 29) (.const (.int .i64 21)), (some (28, true))⟩,
            ⟨(some 31), .pick (.tmp 28) (.tmp 30) (.const (.bool false)), none⟩,
            ⟨(some 25), .take 31, none⟩])
         (.cond (.tmp 25) (.seq (.region false [⟨(some 2), .mv (.const (.int .i64 2)), none⟩])
           (.ret))
          (.seq (.region false [⟨(some 33), .mv (.tmp 0), none⟩,
              ⟨(some 34), .bin .geq .prim (.tmp 33) (.const (.int .i64 22)), none⟩,
              ⟨(some 35), .mv (.tmp 34), none⟩,
              ⟨(some 36), .mv (.tmp 0), (some (35, true))⟩,
              ⟨(some 37), .bin .leq .prim (.tmp 36) (.const (.int .i64 26)), (some (35, true))⟩,
              ⟨(some 38), .pick (.tmp 35) (.tmp 37) (.const (.bool false)), none⟩,
              ⟨(some 32), .take 38, none⟩])
           (.cond (.tmp 32) (.seq (.region false [⟨(some 2), .mv (.const (.int .i64 0)), none⟩])
             (.ret))
            (.skip))))))))))
   (.seq (.region false [⟨(some 2), .mv (.const (.int .i64 (-1))), none⟩])
    (.ret)))
def a_expr_kids : AFn := ⟨39, [.tmp 2], c_expr_kids, false⟩
theorem t_expr_kids : cFn Tryz.prog takesW Tryz.f195 = some a_expr_kids := by kernel_rfl
theorem n_expr_kids : (Tryz.f195.name == "runtime.NumGoroutine") = false := by kernel_rfl
/-- (simulator/expr.kind).named -/
def c__expr_kind__named : ACode :=
  .seq (.region false [⟨(some 2), .box 209 1 (.tmp 0), none⟩,
     ⟨(some 4), .mv (.const (.bool false)), none⟩])
  (.seq (.region false [⟨(some 5), .mv (.tmp 1), none⟩,
      ⟨(some 6), .bin .eql .prim (.tmp 5) (.const (.int .i64 3)), none⟩,
      ⟨(some 7), .mv (.tmp 6), none⟩,
      ⟨(some 8), .mv (.tmp 1), (some (7, false))⟩,
      ⟨(some 9), .call (.const (.fn 201 [] [])) [(.inr (.tmp 8))], (some (7, false))⟩,
      ⟨(some 10), .mv (.tmp 9), (some (7, false))⟩,
      ⟨(some 11), .fa 0 (.tmp 2), (some (10, true))⟩,
      ⟨(some 12), .ldc (.tmp 11), (some (10, true))⟩,
      ⟨(some 13), .un .not (.tmp 12), (some (10, true))⟩,
      ⟨(some 14), .pick (.tmp 10) (.tmp 13) (.const (.bool false)), (some (7, false))⟩,
      ⟨(some 15), .pick (.tmp 7) (.const (.bool true)) (.tmp 14), none⟩,
      ⟨(some 4), .take 15, none⟩])
   (.ret))
def a__expr_kind__named : AFn := ⟨16, [.tmp 4], c__expr_kind__named, false⟩
theorem t__expr_kind__named : cFn Tryz.prog takesW Tryz.f196 = some a__expr_kind__named := by kernel_rfl
theorem n__expr_kind__named : (Tryz.f196.name == "runtime.NumGoroutine") = false := by kernel_rfl
/-- (simulator/expr.kind).numbers -/
def c__expr_kind__numbers : ACode :=
  .seq (.region false [⟨(some 2), .box 209 1 (.tmp 0), none⟩,
     ⟨(some 4), .mv (.const (.int .i64 0)), none⟩,
     ⟨(some 5), .mv (.const (.int .i64 0)), none⟩,
     ⟨(some 6), .mv (.const (.bool false)), none⟩])
  (.seq (.block 0 (.seq (.region false [⟨(some 8), .mv (.tmp 1), none⟩,
        ⟨(some 9), .bin .eql .prim (.tmp 8) (.const (.int .i64 2)), none⟩,
        ⟨(some 7), .take 9, none⟩])
     (.cond (.tmp 7) (.seq (.region false [⟨(some 4), .mv (.const (.int .i64 0)), none⟩,
          ⟨(some 5), .mv (.const (.int .i64 1)), none⟩,
          ⟨(some 6), .mv (.const (.bool true)), none⟩])
       (.ret))
      (.seq (.region false [⟨(some 11), .mv (.tmp 1), none⟩,
          ⟨(some 12), .bin .eql .prim (.tmp 11) (.const (.int .i64 25)), none⟩,
          ⟨(some 10), .take 12, none⟩])
       (.cond (.tmp 10) (.seq (.region false [⟨(some 4), .mv (.const (.int .i64 0)), none⟩,
            ⟨(some 5), .mv (.const (.int .i64 15)), none⟩,
            ⟨(some 6), .mv (.const (.bool true)), none⟩])
         (.ret))
        (.seq (.region false [⟨(some 14), .mv (.tmp 1), none⟩,
            ⟨(some 15), .bin .eql .prim (.tmp 14) (.const (.int .i64 26)), none⟩,
            ⟨(some 13), .take 15, none⟩])
         (.cond (.tmp 13) (.seq (.region false [⟨(some 4), .mv (.const (.int .i64 0)), none⟩,
              ⟨(some 5), .mv (.const (.int .i64 31)), none⟩,
              ⟨(some 6), .mv (.const (.bool true)), none⟩])
           (.ret))
          (.seq (.region false [⟨(some 17), .mv (.tmp 1), none⟩,
              ⟨(some 18), .call (.const (.fn 201 [] [])) [(.inr (.tmp 17))], none⟩,
              ⟨(some 19), .mv (.tmp 18), none⟩,
              ⟨(some 20), .fa 0 (.tmp 2), (some (19, true))⟩,
              ⟨(some 21), .ldc (.tmp 20), (some (19, true))⟩,
              ⟨(some 22), .pick (.tmp 19) (.tmp 21) (.const (.bool false)), none⟩,
              ⟨(some 16), .take 22, none⟩])
           (.cond (.tmp 16) (.seq (.region false [⟨(some 4), .mv (.const (.int .i64 0)), none⟩,
                ⟨(some 5), .mv (.const (.int .i64 63)), none⟩,
                ⟨(some 6), .mv (.const (.bool true)), none⟩])
             (.ret))
            (.skip))))))))))
   (.seq (.region false [⟨(some 4), .mv (.const (.int .i64 0)), none⟩,
       ⟨(some 5), .mv (.const (.int .i64 0)), none⟩,
       ⟨(some 6), .mv (.const (.bool false)), none⟩])
    (.ret)))
def a__expr_kind__numbers : AFn := ⟨23, [.tmp 4, .tmp 5, .tmp 6], c__expr_kind__numbers, false⟩
theorem t__expr_kind__numbers : cFn Tryz.prog takesW Tryz.f197 = some a__expr_kind__numbers := by kernel_rfl
theorem n__expr_kind__numbers : (Tryz.f197.name == "runtime.NumGoroutine") = false := by kernel_rfl
/-- simulator/expr.object -/
def c_expr_object : ACode :=
  .seq (.region false [⟨(some 2), .mv (.const (.bool false)), none⟩])
  (.seq (.region false [⟨(some 3), .mv (.tmp 0), none⟩,
      ⟨(some 4), .bin .geq .prim (.tmp 3) (.const (.int .i64 22)), none⟩,
      ⟨(some 5), .mv (.tmp 4), none⟩,
      ⟨(some 6), .mv (.tmp 0), (some (5, true))⟩,
      ⟨(some 7), .bin .leq .prim (.tmp 6) (.const (.int .i64 24)), (some (5, true))⟩,
      ⟨(some 8), .pick (.tmp 5) (.tmp 7) (.const (.bool false)), none⟩,
      ⟨(some 2), .take 8, none⟩])
   (.ret))
def a_expr_object : AFn := ⟨9, [.tmp 2], c_expr_object, false⟩
theorem t_expr_object : cFn Tryz.prog takesW Tryz.f201 = some a_expr_object := by kernel_rfl
theorem n_expr_object : (Tryz.f201.name == "runtime.NumGoroutine") = false := by kernel_rfl
def tabW : List (Nat × AFn) := [(25, a_law11_sample), (10, a_model_Check), (23, a_model_Same), (26, a_names_Check), (27, a__model_scope__values), (29, a_model_Check_1), (28, a_model_each_api_SiteDecl_), (32, a_model_links), (48, a_slices_Equal_Lapi_Value_api_Value_), (49, a_slices_EqualFunc_Lapi_SiteDecl_Lapi_SiteDecl_api_SiteDecl_api_SiteDecl_), (50, a_model_sameSite), (51, a_slices_Equal_Lapi_Link_api_Link_), (54, a_names_letter), (55, a_names_Keyword), (57, a__model_scope__value), (56, a_model_each_api_Value_), (30, a__model_scope__enter), (31, a_model_site), (90, a_model_links_1), (89, a_model_each_api_Link_), (108, a_slices_EqualFunc_Lapi_ResourceDecl_Lapi_ResourceDecl_api_ResourceDecl_api_ResourceDecl_), (109, a_model_sameResource), (110, a_slices_Equal_Lapi_StoreDecl_api_StoreDecl_), (111, a_slices_Equal_Lapi_BeltDecl_api_BeltDecl_), (112, a_slices_Equal_Lstring_string_), (113, a_slices_EqualFunc_Lapi_Routine_Lapi_Routine_api_Routine_api_Routine_), (114, a_model_sameRoutine), (115, a_slices_EqualFunc_Lapi_Start_Lapi_Start_api_Start_api_Start_), (116, a_model_sameStart), (117, a_slices_EqualFunc_Lapi_Law_Lapi_Law_api_Law_api_Law_), (118, a_model_sameLaw), (125, a_model_known), (126, a_model_fits), (58, a_model_site_1), (61, a_model_site_2), (62, a_model_site_3), (68, a_model_site_4), (71, a_model_site_5), (74, a_model_site_6), (75, a_model_site_7), (76, a_model_site_8), (77, a_model_site_9), (78, a_model_site_10), (79, a_model_site_11), (83, a_model_site_12), (87, a_model_site_13), (60, a_model_first), (65, a_model_within), (143, a_slices_Equal_Lapi_Change_api_Change_), (127, a_dist_Same), (144, a_slices_Equal_Lapi_Field_api_Field_), (145, a_stmt_Same), (146, a_slices_Equal_Lint_int_), (147, a_slices_Equal_Lapi_Term_api_Term_), (137, a_num_In), (59, a_model_each_string_), (64, a_model_site_3_1), (63, a_model_each_api_ResourceDecl_), (70, a_model_site_4_1), (69, a_model_each_api_StoreDecl_), (73, a_model_site_5_1), (72, a_model_each_api_BeltDecl_), (81, a_model_site_11_1), (80, a_model_each_api_Routine_), (85, a_model_site_12_1), (84, a_model_each_api_Start_), (88, a_model_laws), (162, a_slices_EqualFunc_Lapi_Stmt_Lapi_Stmt_api_Stmt_api_Stmt_), (163, a_stmt_same), (66, a_model_schedule), (67, a_model_failures), (82, a_model_routine), (86, a_model_start), (133, a_model_laws_1), (132, a_model_each_api_Law_), (177, a_expr_Same), (178, a_slices_EqualFunc_Lapi_Expr_Lapi_Expr_api_Expr_api_Expr_), (128, a_slices_Contains_Lstring_string_), (129, a_dist_Check), (130, a_slices_Concat_Lapi_Field_api_Field_), (131, a_stmt_Check), (135, a_model_laws_1_1), (134, a_model_each_api_Term_), (151, a_dist_unused), (152, a_dist_within), (154, a_stmt_Count), (155, a_stmt_Depth), (156, a_stmt_check), (136, a_model_term), (167, a_dist_within_1), (166, a_slices_ContainsFunc_Lint_int_), (168, a_stmt_uses), (169, a_stmt_form), (170, a_stmt_parts), (158, a_model_term_1), (157, a_slices_ContainsFunc_Lapi_StoreDecl_api_StoreDecl_), (179, a_slices_IndexFunc_Lint_int_), (180, a_stmt_form_1), (181, a_expr_Check), (183, a__expr_kind__check), (187, a_expr_Nodes), (188, a_expr_Depth), (189, a__expr_kind__nodes), (192, a__expr_kind__node), (194, a__expr_kind__known), (195, a_expr_kids), (196, a__expr_kind__named), (197, a__expr_kind__numbers), (201, a_expr_object)] ++ tab
theorem tabW_ok : ∀ p ∈ tabW, ∃ fn takes, Tryz.prog.funcs[p.1]? = some fn ∧ (fn.name == "runtime.NumGoroutine") = false ∧ cFn Tryz.prog takes fn = some p.2 := by
  intro p hp
  rcases List.mem_append.1 hp with hp | hp
  · simp only [List.mem_cons, List.not_mem_nil, or_false] at hp
    rcases hp with rfl | rfl | rfl | rfl | rfl | rfl | rfl | rfl | rfl | rfl | rfl | rfl | rfl | rfl | rfl | rfl | rfl | rfl | rfl | rfl | rfl | rfl | rfl | rfl | rfl | rfl | rfl | rfl | rfl | rfl | rfl | rfl | rfl | rfl | rfl | rfl | rfl | rfl | rfl | rfl | rfl | rfl | rfl | rfl | rfl | rfl | rfl | rfl | rfl | rfl | rfl | rfl | rfl | rfl | rfl | rfl | rfl | rfl | rfl | rfl | rfl | rfl | rfl | rfl | rfl | rfl | rfl | rfl | rfl | rfl | rfl | rfl | rfl | rfl | rfl | rfl | rfl | rfl | rfl | rfl | rfl | rfl | rfl | rfl | rfl | rfl | rfl | rfl | rfl | rfl | rfl | rfl | rfl | rfl | rfl | rfl | rfl | rfl | rfl | rfl | rfl | rfl | rfl | rfl | rfl | rfl | rfl | rfl | rfl | rfl
    · exact ⟨Tryz.f25, takesK, Tryz.func25, n_law11_sample, t_law11_sample⟩
    · exact ⟨Tryz.f10, takesW, Tryz.func10, n_model_Check, t_model_Check⟩
    · exact ⟨Tryz.f23, takesW, Tryz.func23, n_model_Same, t_model_Same⟩
    · exact ⟨Tryz.f26, takesW, Tryz.func26, n_names_Check, t_names_Check⟩
    · exact ⟨Tryz.f27, takesW, Tryz.func27, n__model_scope__values, t__model_scope__values⟩
    · exact ⟨Tryz.f29, takesW, Tryz.func29, n_model_Check_1, t_model_Check_1⟩
    · exact ⟨Tryz.f28, takesW, Tryz.func28, n_model_each_api_SiteDecl_, t_model_each_api_SiteDecl_⟩
    · exact ⟨Tryz.f32, takesW, Tryz.func32, n_model_links, t_model_links⟩
    · exact ⟨Tryz.f48, takesW, Tryz.func48, n_slices_Equal_Lapi_Value_api_Value_, t_slices_Equal_Lapi_Value_api_Value_⟩
    · exact ⟨Tryz.f49, takesW, Tryz.func49, n_slices_EqualFunc_Lapi_SiteDecl_Lapi_SiteDecl_api_SiteDecl_api_SiteDecl_, t_slices_EqualFunc_Lapi_SiteDecl_Lapi_SiteDecl_api_SiteDecl_api_SiteDecl_⟩
    · exact ⟨Tryz.f50, takesW, Tryz.func50, n_model_sameSite, t_model_sameSite⟩
    · exact ⟨Tryz.f51, takesW, Tryz.func51, n_slices_Equal_Lapi_Link_api_Link_, t_slices_Equal_Lapi_Link_api_Link_⟩
    · exact ⟨Tryz.f54, takesW, Tryz.func54, n_names_letter, t_names_letter⟩
    · exact ⟨Tryz.f55, takesW, Tryz.func55, n_names_Keyword, t_names_Keyword⟩
    · exact ⟨Tryz.f57, takesW, Tryz.func57, n__model_scope__value, t__model_scope__value⟩
    · exact ⟨Tryz.f56, takesW, Tryz.func56, n_model_each_api_Value_, t_model_each_api_Value_⟩
    · exact ⟨Tryz.f30, takesW, Tryz.func30, n__model_scope__enter, t__model_scope__enter⟩
    · exact ⟨Tryz.f31, takesW, Tryz.func31, n_model_site, t_model_site⟩
    · exact ⟨Tryz.f90, takesW, Tryz.func90, n_model_links_1, t_model_links_1⟩
    · exact ⟨Tryz.f89, takesW, Tryz.func89, n_model_each_api_Link_, t_model_each_api_Link_⟩
    · exact ⟨Tryz.f108, takesW, Tryz.func108, n_slices_EqualFunc_Lapi_ResourceDecl_Lapi_ResourceDecl_api_ResourceDecl_api_ResourceDecl_, t_slices_EqualFunc_Lapi_ResourceDecl_Lapi_ResourceDecl_api_ResourceDecl_api_ResourceDecl_⟩
    · exact ⟨Tryz.f109, takesW, Tryz.func109, n_model_sameResource, t_model_sameResource⟩
    · exact ⟨Tryz.f110, takesW, Tryz.func110, n_slices_Equal_Lapi_StoreDecl_api_StoreDecl_, t_slices_Equal_Lapi_StoreDecl_api_StoreDecl_⟩
    · exact ⟨Tryz.f111, takesW, Tryz.func111, n_slices_Equal_Lapi_BeltDecl_api_BeltDecl_, t_slices_Equal_Lapi_BeltDecl_api_BeltDecl_⟩
    · exact ⟨Tryz.f112, takesW, Tryz.func112, n_slices_Equal_Lstring_string_, t_slices_Equal_Lstring_string_⟩
    · exact ⟨Tryz.f113, takesW, Tryz.func113, n_slices_EqualFunc_Lapi_Routine_Lapi_Routine_api_Routine_api_Routine_, t_slices_EqualFunc_Lapi_Routine_Lapi_Routine_api_Routine_api_Routine_⟩
    · exact ⟨Tryz.f114, takesW, Tryz.func114, n_model_sameRoutine, t_model_sameRoutine⟩
    · exact ⟨Tryz.f115, takesW, Tryz.func115, n_slices_EqualFunc_Lapi_Start_Lapi_Start_api_Start_api_Start_, t_slices_EqualFunc_Lapi_Start_Lapi_Start_api_Start_api_Start_⟩
    · exact ⟨Tryz.f116, takesW, Tryz.func116, n_model_sameStart, t_model_sameStart⟩
    · exact ⟨Tryz.f117, takesW, Tryz.func117, n_slices_EqualFunc_Lapi_Law_Lapi_Law_api_Law_api_Law_, t_slices_EqualFunc_Lapi_Law_Lapi_Law_api_Law_api_Law_⟩
    · exact ⟨Tryz.f118, takesW, Tryz.func118, n_model_sameLaw, t_model_sameLaw⟩
    · exact ⟨Tryz.f125, takesW, Tryz.func125, n_model_known, t_model_known⟩
    · exact ⟨Tryz.f126, takesW, Tryz.func126, n_model_fits, t_model_fits⟩
    · exact ⟨Tryz.f58, takesW, Tryz.func58, n_model_site_1, t_model_site_1⟩
    · exact ⟨Tryz.f61, takesW, Tryz.func61, n_model_site_2, t_model_site_2⟩
    · exact ⟨Tryz.f62, takesW, Tryz.func62, n_model_site_3, t_model_site_3⟩
    · exact ⟨Tryz.f68, takesW, Tryz.func68, n_model_site_4, t_model_site_4⟩
    · exact ⟨Tryz.f71, takesW, Tryz.func71, n_model_site_5, t_model_site_5⟩
    · exact ⟨Tryz.f74, takesW, Tryz.func74, n_model_site_6, t_model_site_6⟩
    · exact ⟨Tryz.f75, takesW, Tryz.func75, n_model_site_7, t_model_site_7⟩
    · exact ⟨Tryz.f76, takesW, Tryz.func76, n_model_site_8, t_model_site_8⟩
    · exact ⟨Tryz.f77, takesW, Tryz.func77, n_model_site_9, t_model_site_9⟩
    · exact ⟨Tryz.f78, takesW, Tryz.func78, n_model_site_10, t_model_site_10⟩
    · exact ⟨Tryz.f79, takesW, Tryz.func79, n_model_site_11, t_model_site_11⟩
    · exact ⟨Tryz.f83, takesW, Tryz.func83, n_model_site_12, t_model_site_12⟩
    · exact ⟨Tryz.f87, takesW, Tryz.func87, n_model_site_13, t_model_site_13⟩
    · exact ⟨Tryz.f60, takesW, Tryz.func60, n_model_first, t_model_first⟩
    · exact ⟨Tryz.f65, takesW, Tryz.func65, n_model_within, t_model_within⟩
    · exact ⟨Tryz.f143, takesW, Tryz.func143, n_slices_Equal_Lapi_Change_api_Change_, t_slices_Equal_Lapi_Change_api_Change_⟩
    · exact ⟨Tryz.f127, takesW, Tryz.func127, n_dist_Same, t_dist_Same⟩
    · exact ⟨Tryz.f144, takesW, Tryz.func144, n_slices_Equal_Lapi_Field_api_Field_, t_slices_Equal_Lapi_Field_api_Field_⟩
    · exact ⟨Tryz.f145, takesW, Tryz.func145, n_stmt_Same, t_stmt_Same⟩
    · exact ⟨Tryz.f146, takesW, Tryz.func146, n_slices_Equal_Lint_int_, t_slices_Equal_Lint_int_⟩
    · exact ⟨Tryz.f147, takesW, Tryz.func147, n_slices_Equal_Lapi_Term_api_Term_, t_slices_Equal_Lapi_Term_api_Term_⟩
    · exact ⟨Tryz.f137, takesW, Tryz.func137, n_num_In, t_num_In⟩
    · exact ⟨Tryz.f59, takesW, Tryz.func59, n_model_each_string_, t_model_each_string_⟩
    · exact ⟨Tryz.f64, takesW, Tryz.func64, n_model_site_3_1, t_model_site_3_1⟩
    · exact ⟨Tryz.f63, takesW, Tryz.func63, n_model_each_api_ResourceDecl_, t_model_each_api_ResourceDecl_⟩
    · exact ⟨Tryz.f70, takesW, Tryz.func70, n_model_site_4_1, t_model_site_4_1⟩
    · exact ⟨Tryz.f69, takesW, Tryz.func69, n_model_each_api_StoreDecl_, t_model_each_api_StoreDecl_⟩
    · exact ⟨Tryz.f73, takesW, Tryz.func73, n_model_site_5_1, t_model_site_5_1⟩
    · exact ⟨Tryz.f72, takesW, Tryz.func72, n_model_each_api_BeltDecl_, t_model_each_api_BeltDecl_⟩
    · exact ⟨Tryz.f81, takesW, Tryz.func81, n_model_site_11_1, t_model_site_11_1⟩
    · exact ⟨Tryz.f80, takesW, Tryz.func80, n_model_each_api_Routine_, t_model_each_api_Routine_⟩
    · exact ⟨Tryz.f85, takesW, Tryz.func85, n_model_site_12_1, t_model_site_12_1⟩
    · exact ⟨Tryz.f84, takesW, Tryz.func84, n_model_each_api_Start_, t_model_each_api_Start_⟩
    · exact ⟨Tryz.f88, takesW, Tryz.func88, n_model_laws, t_model_laws⟩
    · exact ⟨Tryz.f162, takesW, Tryz.func162, n_slices_EqualFunc_Lapi_Stmt_Lapi_Stmt_api_Stmt_api_Stmt_, t_slices_EqualFunc_Lapi_Stmt_Lapi_Stmt_api_Stmt_api_Stmt_⟩
    · exact ⟨Tryz.f163, takesW, Tryz.func163, n_stmt_same, t_stmt_same⟩
    · exact ⟨Tryz.f66, takesW, Tryz.func66, n_model_schedule, t_model_schedule⟩
    · exact ⟨Tryz.f67, takesW, Tryz.func67, n_model_failures, t_model_failures⟩
    · exact ⟨Tryz.f82, takesW, Tryz.func82, n_model_routine, t_model_routine⟩
    · exact ⟨Tryz.f86, takesW, Tryz.func86, n_model_start, t_model_start⟩
    · exact ⟨Tryz.f133, takesW, Tryz.func133, n_model_laws_1, t_model_laws_1⟩
    · exact ⟨Tryz.f132, takesW, Tryz.func132, n_model_each_api_Law_, t_model_each_api_Law_⟩
    · exact ⟨Tryz.f177, takesW, Tryz.func177, n_expr_Same, t_expr_Same⟩
    · exact ⟨Tryz.f178, takesW, Tryz.func178, n_slices_EqualFunc_Lapi_Expr_Lapi_Expr_api_Expr_api_Expr_, t_slices_EqualFunc_Lapi_Expr_Lapi_Expr_api_Expr_api_Expr_⟩
    · exact ⟨Tryz.f128, takesW, Tryz.func128, n_slices_Contains_Lstring_string_, t_slices_Contains_Lstring_string_⟩
    · exact ⟨Tryz.f129, takesW, Tryz.func129, n_dist_Check, t_dist_Check⟩
    · exact ⟨Tryz.f130, takesW, Tryz.func130, n_slices_Concat_Lapi_Field_api_Field_, t_slices_Concat_Lapi_Field_api_Field_⟩
    · exact ⟨Tryz.f131, takesW, Tryz.func131, n_stmt_Check, t_stmt_Check⟩
    · exact ⟨Tryz.f135, takesW, Tryz.func135, n_model_laws_1_1, t_model_laws_1_1⟩
    · exact ⟨Tryz.f134, takesW, Tryz.func134, n_model_each_api_Term_, t_model_each_api_Term_⟩
    · exact ⟨Tryz.f151, takesW, Tryz.func151, n_dist_unused, t_dist_unused⟩
    · exact ⟨Tryz.f152, takesW, Tryz.func152, n_dist_within, t_dist_within⟩
    · exact ⟨Tryz.f154, takesW, Tryz.func154, n_stmt_Count, t_stmt_Count⟩
    · exact ⟨Tryz.f155, takesW, Tryz.func155, n_stmt_Depth, t_stmt_Depth⟩
    · exact ⟨Tryz.f156, takesW, Tryz.func156, n_stmt_check, t_stmt_check⟩
    · exact ⟨Tryz.f136, takesW, Tryz.func136, n_model_term, t_model_term⟩
    · exact ⟨Tryz.f167, takesW, Tryz.func167, n_dist_within_1, t_dist_within_1⟩
    · exact ⟨Tryz.f166, takesW, Tryz.func166, n_slices_ContainsFunc_Lint_int_, t_slices_ContainsFunc_Lint_int_⟩
    · exact ⟨Tryz.f168, takesW, Tryz.func168, n_stmt_uses, t_stmt_uses⟩
    · exact ⟨Tryz.f169, takesW, Tryz.func169, n_stmt_form, t_stmt_form⟩
    · exact ⟨Tryz.f170, takesW, Tryz.func170, n_stmt_parts, t_stmt_parts⟩
    · exact ⟨Tryz.f158, takesW, Tryz.func158, n_model_term_1, t_model_term_1⟩
    · exact ⟨Tryz.f157, takesW, Tryz.func157, n_slices_ContainsFunc_Lapi_StoreDecl_api_StoreDecl_, t_slices_ContainsFunc_Lapi_StoreDecl_api_StoreDecl_⟩
    · exact ⟨Tryz.f179, takesW, Tryz.func179, n_slices_IndexFunc_Lint_int_, t_slices_IndexFunc_Lint_int_⟩
    · exact ⟨Tryz.f180, takesW, Tryz.func180, n_stmt_form_1, t_stmt_form_1⟩
    · exact ⟨Tryz.f181, takesW, Tryz.func181, n_expr_Check, t_expr_Check⟩
    · exact ⟨Tryz.f183, takesW, Tryz.func183, n__expr_kind__check, t__expr_kind__check⟩
    · exact ⟨Tryz.f187, takesW, Tryz.func187, n_expr_Nodes, t_expr_Nodes⟩
    · exact ⟨Tryz.f188, takesW, Tryz.func188, n_expr_Depth, t_expr_Depth⟩
    · exact ⟨Tryz.f189, takesW, Tryz.func189, n__expr_kind__nodes, t__expr_kind__nodes⟩
    · exact ⟨Tryz.f192, takesW, Tryz.func192, n__expr_kind__node, t__expr_kind__node⟩
    · exact ⟨Tryz.f194, takesW, Tryz.func194, n__expr_kind__known, t__expr_kind__known⟩
    · exact ⟨Tryz.f195, takesW, Tryz.func195, n_expr_kids, t_expr_kids⟩
    · exact ⟨Tryz.f196, takesW, Tryz.func196, n__expr_kind__named, t__expr_kind__named⟩
    · exact ⟨Tryz.f197, takesW, Tryz.func197, n__expr_kind__numbers, t__expr_kind__numbers⟩
    · exact ⟨Tryz.f201, takesW, Tryz.func201, n_expr_object, t_expr_object⟩
  · exact tab_ok p hp
end Go.Proofs.YtlmfmmclnboglaaGreat
