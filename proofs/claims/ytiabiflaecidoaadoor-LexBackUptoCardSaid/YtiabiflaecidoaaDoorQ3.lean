/-
  Several texts of this proof in one: TA, TB.
-/
import Derived.Test.YtiabiflaecidoaaDoorRows
import Derived.Test.YtiabiflaecidoaaDoorQ2
import Derived.Test.YtiabiflaecidoaaDoorQ2
import Derived.ProofKit
section
/-
  The functions in the evaluator's terms, as the compile lays them; printed by wip/abs/T6.lean.txt.
-/
namespace Go.Proofs.YtiabiflaecidoaaDoor
open Go Go.Proofs.YtiabiflaecidoaaDoor.Abs
set_option maxRecDepth 100000
set_option maxHeartbeats 0
set_option linter.all false
def takes : FuncId → List Nat := fun _ => []
abbrev F_main_main : FuncId := 0
abbrev F_gosem_cut : FuncId := 1
abbrev F_gosem_cut_init : FuncId := 2
abbrev F_law08_LexReads : FuncId := 3
abbrev F_law08_LexAccepts : FuncId := 4
abbrev F_law08_LexChecks : FuncId := 5
abbrev F_law08_LexBack : FuncId := 6
abbrev F_law08_LexNumbers : FuncId := 7
abbrev F_law08_LexBlanks : FuncId := 8
abbrev F_law08_LexLong : FuncId := 9
abbrev F_law08_awake : FuncId := 10
abbrev F_lex_Tokens : FuncId := 11
abbrev F_r08_Tokens : FuncId := 12
abbrev F_r08_Same : FuncId := 13
abbrev F_lex_Check : FuncId := 14
abbrev F_lex_Lines : FuncId := 15
abbrev F_lex_Text : FuncId := 16
abbrev F_r08_Text : FuncId := 17
abbrev F_r08_Check : FuncId := 18
abbrev F_r08_Lines : FuncId := 19
abbrev F_lex_Number : FuncId := 20
abbrev F_r08_Number : FuncId := 21
abbrev F_r01_Text : FuncId := 22
abbrev F_lex_Tokens_1 : FuncId := 23
abbrev F_lex_token : FuncId := 24
abbrev F_r08_longest : FuncId := 25
abbrev F_r08_Word : FuncId := 26
abbrev F_r08_digits : FuncId := 27
abbrev F_lex_form : FuncId := 28
abbrev F_lex_follows : FuncId := 29
abbrev F__Pstrings_Builder__WriteString : FuncId := 30
abbrev F_strings_Repeat : FuncId := 31
abbrev F__Pstrings_Builder__WriteByte : FuncId := 32
abbrev F_num_Text : FuncId := 33
abbrev F__Pstrings_Builder__Len : FuncId := 34
abbrev F__Pstrings_Builder__String : FuncId := 35
abbrev F_r08_formed : FuncId := 36
abbrev F_num_Parse : FuncId := 37
abbrev F_r08_digit : FuncId := 38
abbrev F_lex_letter : FuncId := 39
abbrev F_lex_run : FuncId := 40
abbrev F_lex_inner : FuncId := 41
abbrev F_lex_digit : FuncId := 42
abbrev F_lex_sign : FuncId := 43
abbrev F_r08_Sign : FuncId := 44
abbrev F_r08_letter : FuncId := 45
abbrev F_lex_word : FuncId := 46
abbrev F__Pstrings_Builder__copyCheck : FuncId := 47
abbrev F_math_bits_Mul : FuncId := 48
abbrev F_strings_HasPrefix : FuncId := 49
abbrev F__Pstrings_Builder__Grow : FuncId := 50
abbrev F_strconv_Itoa : FuncId := 51
abbrev F_strconv_Atoi : FuncId := 52
abbrev F_num_In : FuncId := 53
abbrev F_strings_IndexByte : FuncId := 54
abbrev F_internal_abi_NoEscape : FuncId := 55
abbrev F_math_bits_Mul32 : FuncId := 56
abbrev F_math_bits_Mul64 : FuncId := 57
abbrev F_internal_stringslite_HasPrefix : FuncId := 58
abbrev F__Pstrings_Builder__grow : FuncId := 59
abbrev F_internal_strconv_Itoa : FuncId := 60
abbrev F_internal_strconv_Atoi : FuncId := 61
abbrev F_strconv_toError : FuncId := 62
abbrev F_internal_stringslite_IndexByte : FuncId := 63
abbrev F_bytealg_MakeNoZero : FuncId := 64
abbrev F_internal_strconv_FormatInt : FuncId := 65
abbrev F_internal_strconv_ParseInt : FuncId := 66
abbrev F_strconv_syntaxError : FuncId := 67
abbrev F_strconv_rangeError : FuncId := 68
abbrev F_strconv_baseError : FuncId := 69
abbrev F_strconv_bitSizeError : FuncId := 70
abbrev F_bytealg_IndexByteString : FuncId := 71
abbrev F_internal_strconv_small : FuncId := 72
abbrev F_internal_strconv_numDigits : FuncId := 73
abbrev F_internal_strconv_formatBase10 : FuncId := 74
abbrev F_internal_strconv_formatBits : FuncId := 75
abbrev F_internal_strconv_ParseUint : FuncId := 76
abbrev F_internal_stringslite_Clone : FuncId := 77
abbrev F_errors_New : FuncId := 78
abbrev F_internal_strconv_log10Pow2 : FuncId := 79
abbrev F_math_bits_Len64 : FuncId := 80
abbrev F_internal_strconv_bool2_int_ : FuncId := 81
abbrev F_internal_strconv_isPowerOfTwo : FuncId := 82
abbrev F_math_bits_TrailingZeros : FuncId := 83
abbrev F_internal_strconv_lower : FuncId := 84
abbrev F_internal_strconv_underscoreOK : FuncId := 85
abbrev F_math_bits_TrailingZeros32 : FuncId := 86
abbrev F_math_bits_TrailingZeros64 : FuncId := 87
abbrev F__runtime_boundsError__Error : FuncId := 88
abbrev F__runtime_boundsError__RuntimeError : FuncId := 89
abbrev F__runtime_errorString__Error : FuncId := 90
abbrev F__runtime_errorString__RuntimeError : FuncId := 91
abbrev F__runtime_plainError__Error : FuncId := 92
abbrev F__runtime_plainError__RuntimeError : FuncId := 93
abbrev F__runtime_errorAddressString__Error : FuncId := 94
abbrev F__runtime_errorAddressString__RuntimeError : FuncId := 95
abbrev F__Pruntime_TypeAssertionError__Error : FuncId := 96
abbrev F__Pruntime_TypeAssertionError__RuntimeError : FuncId := 97
abbrev F__Pruntime_PanicNilError__Error : FuncId := 98
abbrev F__Pruntime_PanicNilError__RuntimeError : FuncId := 99
abbrev F__Pinternal_abi_Type__Align : FuncId := 100
abbrev F__internal_runtime_maps_unhashableTypeError__Error : FuncId := 101
abbrev F__internal_runtime_maps_unhashableTypeError__RuntimeError : FuncId := 102
abbrev F__Pstrings_Builder__Reset : FuncId := 103
abbrev F__internal_strconv_Error__Error : FuncId := 104
abbrev F__Pstrconv_NumError__Error : FuncId := 105
abbrev F__Perrors_errorString__Error : FuncId := 106
abbrev F__internal_abi_Kind__String : FuncId := 107
abbrev F_var_s_door__gosem_cut_vars_holds_initialisers_alone__see_the_manifest_s_row_cutvarsword__look_11__test_files_too_ : FuncId := 108
abbrev F_var_s_door__internal_strconv_uint64pow10_is_laid_by_its_own_initialiser__plain_data__look_11_ : FuncId := 109
abbrev F_var_s_door__math_bits_deBruijn32tab_is_laid_by_its_own_initialiser__plain_data__look_11_ : FuncId := 110
abbrev F_var_s_door__math_bits_deBruijn64tab_is_laid_by_its_own_initialiser__plain_data__look_11_ : FuncId := 111
abbrev F_var_s_door__strconv_ErrRange_is_laid_by_its_own_call_of_errors_New_on_one_literal__look_11_ : FuncId := 112
abbrev F_var_s_door__strconv_ErrSyntax_is_laid_by_its_own_call_of_errors_New_on_one_literal__look_11_ : FuncId := 113
abbrev F_var_s_door__the_look_of_gosem_cut_vars_went_over_the_folder_that_the_caller_named_as_the_repository_s_root__look_11_ : FuncId := 114
abbrev F_gosem_cut_vars : FuncId := 115
abbrev ty___ : TypeId := 0
abbrev ty_func__ : TypeId := 1
abbrev ty_int64 : TypeId := 2
abbrev ty_int : TypeId := 3
abbrev ty_bool : TypeId := 4
abbrev ty_uint8 : TypeId := 5
abbrev ty_abi_BoundsErrorCode : TypeId := 6
abbrev ty_struct___x_int64__y_int__signed_bool__code_abi_BoundsErrorCode__ : TypeId := 7
abbrev ty_runtime_boundsError : TypeId := 8
abbrev ty_string : TypeId := 9
abbrev ty_runtime_errorString : TypeId := 10
abbrev ty_runtime_plainError : TypeId := 11
abbrev ty_uintptr : TypeId := 12
abbrev ty_struct___msg_string__addr_uintptr__ : TypeId := 13
abbrev ty_runtime_errorAddressString : TypeId := 14
abbrev ty_Pruntime_TypeAssertionError : TypeId := 15
abbrev ty_Pruntime_PanicNilError : TypeId := 16
abbrev ty_Pabi_Type : TypeId := 17
abbrev ty_struct___typ_Pabi_Type__ : TypeId := 18
abbrev ty_maps_unhashableTypeError : TypeId := 19
abbrev ty_interface___ : TypeId := 20
abbrev ty_int32 : TypeId := 21
abbrev ty_func___bool : TypeId := 22
abbrev ty_Lapi_Token : TypeId := 23
abbrev ty_api_Errno : TypeId := 24
abbrev ty__Lapi_Token__int__api_Errno_ : TypeId := 25
abbrev ty_func_string___Lapi_Token__int__api_Errno_ : TypeId := 26
abbrev ty_func_Lapi_Token__Lapi_Token__bool : TypeId := 27
abbrev ty_func_string__bool : TypeId := 28
abbrev ty_api_TokenKind : TypeId := 29
abbrev ty_struct___Kind_api_TokenKind__Text_string__N_int__Line_int__ : TypeId := 30
abbrev ty_api_Token : TypeId := 31
abbrev ty_func_Lapi_Token__api_Errno : TypeId := 32
abbrev ty_func_Lapi_Token__int : TypeId := 33
abbrev ty__string__api_Errno_ : TypeId := 34
abbrev ty_func_Lapi_Token___string__api_Errno_ : TypeId := 35
abbrev ty_func_Lapi_Token__bool : TypeId := 36
abbrev ty__int__bool_ : TypeId := 37
abbrev ty_func_string___int__bool_ : TypeId := 38
abbrev ty_func_int__string : TypeId := 39
abbrev ty_func_string__int__bool : TypeId := 40
abbrev ty_func_string__string__bool__bool : TypeId := 41
abbrev ty_Luint8 : TypeId := 42
abbrev ty_func_int__bool : TypeId := 43
abbrev ty__api_Token__int_ : TypeId := 44
abbrev ty_func_string___api_Token__int_ : TypeId := 45
abbrev ty_func_string__int : TypeId := 46
abbrev ty_func_api_Token__bool : TypeId := 47
abbrev ty_func_api_Token__api_Token__bool__api_Errno : TypeId := 48
abbrev ty_Pstrings_Builder : TypeId := 49
abbrev ty_struct___addr_Pstrings_Builder__buf_Luint8__ : TypeId := 50
abbrev ty_strings_Builder : TypeId := 51
abbrev ty_interface___Error___string__ : TypeId := 52
abbrev ty_error : TypeId := 53
abbrev ty__int__error_ : TypeId := 54
abbrev ty_func_string___int__error_ : TypeId := 55
abbrev ty_func_string__int__string : TypeId := 56
abbrev ty_func_uint8__error : TypeId := 57
abbrev ty_func___int : TypeId := 58
abbrev ty_func___string : TypeId := 59
abbrev ty_func_uint8__bool : TypeId := 60
abbrev ty_func_string__func_uint8__bool__int : TypeId := 61
abbrev ty_uint : TypeId := 62
abbrev ty__uint__uint_ : TypeId := 63
abbrev ty_func_uint__uint___uint__uint_ : TypeId := 64
abbrev ty_func_string__string__bool : TypeId := 65
abbrev ty_func_int_ : TypeId := 66
abbrev ty_Puint8 : TypeId := 67
abbrev ty_func_string__uint8__int : TypeId := 68
abbrev ty_unsafe_Pointer : TypeId := 69
abbrev ty_func_unsafe_Pointer__unsafe_Pointer : TypeId := 70
abbrev ty_uint32 : TypeId := 71
abbrev ty__uint32__uint32_ : TypeId := 72
abbrev ty_func_uint32__uint32___uint32__uint32_ : TypeId := 73
abbrev ty_uint64 : TypeId := 74
abbrev ty__uint64__uint64_ : TypeId := 75
abbrev ty_func_uint64__uint64___uint64__uint64_ : TypeId := 76
abbrev ty_func_string__string__int__int__error__error : TypeId := 77
abbrev ty_func_int__Luint8 : TypeId := 78
abbrev ty_func_int64__int__string : TypeId := 79
abbrev ty_strconv_Error : TypeId := 80
abbrev ty__int64__error_ : TypeId := 81
abbrev ty_func_string__int__int___int64__error_ : TypeId := 82
abbrev ty_Pstrconv_NumError : TypeId := 83
abbrev ty_func_string__string__Pstrconv_NumError : TypeId := 84
abbrev ty_func_string__string__int__Pstrconv_NumError : TypeId := 85
abbrev ty__24_uint8 : TypeId := 86
abbrev ty_func_uint64__int : TypeId := 87
abbrev ty_func_Luint8__uint64_ : TypeId := 88
abbrev ty__Luint8__string_ : TypeId := 89
abbrev ty_func_Luint8__uint64__int__bool__bool___Luint8__string_ : TypeId := 90
abbrev ty__uint64__error_ : TypeId := 91
abbrev ty_func_string__int__int___uint64__error_ : TypeId := 92
abbrev ty_func_string__string : TypeId := 93
abbrev ty_struct___Func_string__Num_string__Err_error__ : TypeId := 94
abbrev ty_strconv_NumError : TypeId := 95
abbrev ty_func_string__error : TypeId := 96
abbrev ty_func_int__int : TypeId := 97
abbrev ty_func_bool__int : TypeId := 98
abbrev ty__20_uint64 : TypeId := 99
abbrev ty__65_uint8 : TypeId := 100
abbrev ty_func_uint__int : TypeId := 101
abbrev ty_func_uint8__uint8 : TypeId := 102
abbrev ty_Perrors_errorString : TypeId := 103
abbrev ty_struct___s_string__ : TypeId := 104
abbrev ty_errors_errorString : TypeId := 105
abbrev ty_func_uint32__int : TypeId := 106
abbrev ty__32_uint8 : TypeId := 107
abbrev ty__64_uint8 : TypeId := 108
abbrev ty_struct____interface_Pabi_Type__concrete_Pabi_Type__asserted_Pabi_Type__missingMethod_string__ : TypeId := 109
abbrev ty_runtime_TypeAssertionError : TypeId := 110
abbrev ty__0_Pruntime_PanicNilError : TypeId := 111
abbrev ty_struct______0_Pruntime_PanicNilError__ : TypeId := 112
abbrev ty_runtime_PanicNilError : TypeId := 113
abbrev ty_abi_TFlag : TypeId := 114
abbrev ty_abi_Kind : TypeId := 115
abbrev ty_func_unsafe_Pointer__unsafe_Pointer__bool : TypeId := 116
abbrev ty_abi_NameOff : TypeId := 117
abbrev ty_abi_TypeOff : TypeId := 118
abbrev ty_struct___Size__uintptr__PtrBytes_uintptr__Hash_uint32__TFlag_abi_TFlag__Align__uint8__FieldAlign__uint8__Kind__abi_Kind__Equal_func_unsafe_Pointer__unsafe_Pointer__bool__GCData_Puint8__Str_abi_NameOff__PtrToThis_abi_TypeOff__ : TypeId := 119
abbrev ty_abi_Type : TypeId := 120
/-- simulator/simulatorlaw08.LexReads -/
def c_law08_LexReads : ACode :=
  .seq (.region false [⟨(some 2), .mv (.const (.bool false)), none⟩])
  (.seq (.seq (.region false [⟨(some 9), .mv (.tmp 0), none⟩,
       ⟨(some 10), .len .str (.tmp 9), none⟩,
       ⟨(some 11), .bin .gtr .prim (.tmp 10) (.const (.int .i64 600)), none⟩])
    (.cond (.tmp 11) (.seq (.region false [⟨(some 12), .call (.const (.fn 10 [] [])) [], none⟩,
         ⟨(some 2), .take 12, none⟩])
      (.ret))
     (.skip)))
   (.seq (.region false [⟨(some 14), .mv (.tmp 0), none⟩,
       ⟨(some 15), .call (.const (.fn 11 [] [])) [(.inr (.tmp 14))], none⟩,
       ⟨(some 13), .mv (.tmp 15), none⟩,
       ⟨(some 16), .extract (.tmp 13) 0, none⟩,
       ⟨(some 17), .extract (.tmp 13) 1, none⟩,
       ⟨(some 18), .extract (.tmp 13) 2, none⟩,
       ⟨(some 3), .take 16, none⟩,
       ⟨(some 4), .take 17, none⟩,
       ⟨(some 5), .take 18, none⟩])
    (.seq (.region false [⟨(some 20), .mv (.tmp 0), none⟩,
        ⟨(some 21), .call (.const (.fn 12 [] [])) [(.inr (.tmp 20))], none⟩,
        ⟨(some 19), .mv (.tmp 21), none⟩,
        ⟨(some 22), .extract (.tmp 19) 0, none⟩,
        ⟨(some 23), .extract (.tmp 19) 1, none⟩,
        ⟨(some 24), .extract (.tmp 19) 2, none⟩,
        ⟨(some 6), .take 22, none⟩,
        ⟨(some 7), .take 23, none⟩,
        ⟨(some 8), .take 24, none⟩])
     (.seq (.region false [⟨(some 25), .mv (.tmp 3), none⟩,
         ⟨(some 26), .mv (.tmp 6), none⟩,
         ⟨(some 27), .call (.const (.fn 13 [] [])) [(.inr (.tmp 25)), (.inr (.tmp 26))], none⟩,
         ⟨(some 28), .mv (.tmp 27), none⟩,
         ⟨(some 29), .mv (.tmp 4), (some (28, true))⟩,
         ⟨(some 30), .mv (.tmp 7), (some (28, true))⟩,
         ⟨(some 31), .bin .eql .prim (.tmp 29) (.tmp 30), (some (28, true))⟩,
         ⟨(some 32), .pick (.tmp 28) (.tmp 31) (.const (.bool false)), none⟩,
         ⟨(some 33), .mv (.tmp 32), none⟩,
         ⟨(some 34), .mv (.tmp 5), (some (33, true))⟩,
         ⟨(some 35), .mv (.tmp 8), (some (33, true))⟩,
         ⟨(some 36), .bin .eql .prim (.tmp 34) (.tmp 35), (some (33, true))⟩,
         ⟨(some 37), .pick (.tmp 33) (.tmp 36) (.const (.bool false)), none⟩,
         ⟨(some 38), .mv (.tmp 37), none⟩,
         ⟨(some 39), .call (.const (.fn 10 [] [])) [], (some (38, true))⟩,
         ⟨(some 40), .pick (.tmp 38) (.tmp 39) (.const (.bool false)), none⟩,
         ⟨(some 2), .take 40, none⟩])
      (.ret)))))
def a_law08_LexReads : AFn := ⟨41, [.tmp 2], c_law08_LexReads, false⟩
def p_law08_LexReads : List Nat := [29, 30, 31, 34, 35, 36, 39]
theorem t_law08_LexReads : cFn Tryd.prog takes Tryd.f3 = some a_law08_LexReads := by kernel_rfl
theorem n_law08_LexReads : (Tryd.f3.name == "runtime.NumGoroutine") = false := by kernel_rfl
def c_law08_LexChecks_l0b : ACode :=
  .seq (.seq (.region false [⟨(some 12), .mv (.tmp 3), none⟩,
      ⟨(some 13), .mv (.tmp 0), none⟩,
      ⟨(some 14), .len .slice (.tmp 13), none⟩,
      ⟨(some 15), .bin .lss .prim (.tmp 12) (.tmp 14), none⟩])
   (.cond (.tmp 15) (.skip)
    (.exit 0)))
  (.seq (.block 1 (.seq (.region false [⟨(some 18), .mv (.tmp 0), none⟩,
        ⟨(some 19), .mv (.tmp 3), none⟩,
        ⟨(some 20), .ia (.slice 4) (.tmp 18) (.tmp 19), none⟩,
        ⟨(some 21), .fa 1 (.tmp 20), none⟩,
        ⟨(some 22), .ldc (.tmp 21), none⟩,
        ⟨(some 23), .len .str (.tmp 22), none⟩,
        ⟨(some 24), .bin .gtr .prim (.tmp 23) (.const (.int .i64 40)), none⟩,
        ⟨(some 25), .mv (.tmp 24), none⟩,
        ⟨(some 26), .mv (.tmp 0), (some (25, false))⟩,
        ⟨(some 27), .mv (.tmp 3), (some (25, false))⟩,
        ⟨(some 28), .ia (.slice 4) (.tmp 26) (.tmp 27), (some (25, false))⟩,
        ⟨(some 29), .fa 3 (.tmp 28), (some (25, false))⟩,
        ⟨(some 30), .ldc (.tmp 29), (some (25, false))⟩,
        ⟨(some 31), .bin .gtr .prim (.tmp 30) (.const (.int .i64 30000)), (some (25, false))⟩,
        ⟨(some 32), .pick (.tmp 25) (.const (.bool true)) (.tmp 31), none⟩])
     (.cond (.tmp 32) (.seq (.region false [⟨(some 33), .call (.const (.fn 10 [] [])) [], none⟩,
          ⟨(some 2), .take 33, none⟩])
       (.ret))
      (.skip))))
   (.region false [⟨(some 16), .mv (.tmp 3), none⟩,
      ⟨(some 17), .bin .add .prim (.tmp 16) (.const (.int .i64 1)), none⟩,
      ⟨(some 3), .take 17, none⟩]))
def c_law08_LexChecks_l0 : ACode := .loop c_law08_LexChecks_l0b
def c_law08_LexChecks_j1 : ACode :=
  .seq (.region false [⟨(some 35), .mv (.tmp 0), none⟩,
     ⟨(some 36), .call (.const (.fn 16 [] [])) [(.inr (.tmp 35))], none⟩,
     ⟨(some 34), .mv (.tmp 36), none⟩,
     ⟨(some 37), .extract (.tmp 34) 0, none⟩,
     ⟨(some 38), .extract (.tmp 34) 1, none⟩,
     ⟨(some 4), .take 37, none⟩,
     ⟨(some 5), .take 38, none⟩])
  (.seq (.region false [⟨(some 40), .mv (.tmp 0), none⟩,
      ⟨(some 41), .call (.const (.fn 17 [] [])) [(.inr (.tmp 40))], none⟩,
      ⟨(some 39), .mv (.tmp 41), none⟩,
      ⟨(some 42), .extract (.tmp 39) 0, none⟩,
      ⟨(some 43), .extract (.tmp 39) 1, none⟩,
      ⟨(some 6), .take 42, none⟩,
      ⟨(some 7), .take 43, none⟩])
   (.seq (.region false [⟨(some 44), .mv (.tmp 0), none⟩,
       ⟨(some 45), .call (.const (.fn 14 [] [])) [(.inr (.tmp 44))], none⟩,
       ⟨(some 46), .mv (.tmp 0), none⟩,
       ⟨(some 47), .call (.const (.fn 18 [] [])) [(.inr (.tmp 46))], none⟩,
       ⟨(some 48), .bin .eql .prim (.tmp 45) (.tmp 47), none⟩,
       ⟨(some 49), .mv (.tmp 48), none⟩,
       ⟨(some 50), .mv (.tmp 0), (some (49, true))⟩,
       ⟨(some 51), .call (.const (.fn 15 [] [])) [(.inr (.tmp 50))], (some (49, true))⟩,
       ⟨(some 52), .mv (.tmp 0), (some (49, true))⟩,
       ⟨(some 53), .call (.const (.fn 19 [] [])) [(.inr (.tmp 52))], (some (49, true))⟩,
       ⟨(some 54), .bin .eql .prim (.tmp 51) (.tmp 53), (some (49, true))⟩,
       ⟨(some 55), .pick (.tmp 49) (.tmp 54) (.const (.bool false)), none⟩,
       ⟨(some 56), .mv (.tmp 55), none⟩,
       ⟨(some 57), .mv (.tmp 4), (some (56, true))⟩,
       ⟨(some 58), .mv (.tmp 6), (some (56, true))⟩,
       ⟨(some 59), .bin .eql .prim (.tmp 57) (.tmp 58), (some (56, true))⟩,
       ⟨(some 60), .pick (.tmp 56) (.tmp 59) (.const (.bool false)), none⟩,
       ⟨(some 61), .mv (.tmp 60), none⟩,
       ⟨(some 62), .mv (.tmp 5), (some (61, true))⟩,
       ⟨(some 63), .mv (.tmp 7), (some (61, true))⟩,
       ⟨(some 64), .bin .eql .prim (.tmp 62) (.tmp 63), (some (61, true))⟩,
       ⟨(some 65), .pick (.tmp 61) (.tmp 64) (.const (.bool false)), none⟩,
       ⟨(some 66), .mv (.tmp 65), none⟩,
       ⟨(some 67), .call (.const (.fn 10 [] [])) [], (some (66, true))⟩,
       ⟨(some 68), .pick (.tmp 66) (.tmp 67) (.const (.bool false)), none⟩,
       ⟨(some 2), .take 68, none⟩])
    (.ret)))
/-- simulator/simulatorlaw08.LexChecks -/
def c_law08_LexChecks : ACode :=
  .seq (.region false [⟨(some 2), .mv (.const (.bool false)), none⟩])
  (.seq (.seq (.region false [⟨(some 8), .mv (.tmp 0), none⟩,
       ⟨(some 9), .len .slice (.tmp 8), none⟩,
       ⟨(some 10), .bin .gtr .prim (.tmp 9) (.const (.int .i64 60)), none⟩])
    (.cond (.tmp 10) (.seq (.region false [⟨(some 11), .call (.const (.fn 10 [] [])) [], none⟩,
         ⟨(some 2), .take 11, none⟩])
      (.ret))
     (.skip)))
   (.seq (.seq (.region false [⟨(some 3), .mv (.const (.int .i64 0)), none⟩])
     (.block 0 (c_law08_LexChecks_l0)))
    c_law08_LexChecks_j1))
def a_law08_LexChecks : AFn := ⟨69, [.tmp 2], c_law08_LexChecks, false⟩
def p_law08_LexChecks : List Nat := [26, 27, 28, 29, 30, 31, 50, 51, 52, 53, 54, 57, 58, 59, 62, 63, 64, 67]
theorem t_law08_LexChecks : cFn Tryd.prog takes Tryd.f5 = some a_law08_LexChecks := by kernel_rfl
theorem n_law08_LexChecks : (Tryd.f5.name == "runtime.NumGoroutine") = false := by kernel_rfl
/-- simulator/simulatorlaw08.LexBack -/
def c_law08_LexBack : ACode :=
  .seq (.region false [⟨(some 2), .mv (.const (.bool false)), none⟩])
  (.seq (.seq (.region false [⟨(some 8), .mv (.tmp 0), none⟩,
       ⟨(some 9), .len .slice (.tmp 8), none⟩,
       ⟨(some 10), .bin .gtr .prim (.tmp 9) (.const (.int .i64 200)), none⟩])
    (.cond (.tmp 10) (.seq (.region false [⟨(some 11), .call (.const (.fn 10 [] [])) [], none⟩,
         ⟨(some 2), .take 11, none⟩])
      (.ret))
     (.skip)))
   (.seq (.region false [⟨(some 13), .mv (.tmp 0), none⟩,
       ⟨(some 14), .call (.const (.fn 16 [] [])) [(.inr (.tmp 13))], none⟩,
       ⟨(some 12), .mv (.tmp 14), none⟩,
       ⟨(some 15), .extract (.tmp 12) 0, none⟩,
       ⟨(some 16), .extract (.tmp 12) 1, none⟩,
       ⟨(some 3), .take 15, none⟩,
       ⟨(some 4), .take 16, none⟩])
    (.seq (.seq (.region false [⟨(some 17), .mv (.tmp 4), none⟩,
         ⟨(some 18), .bin .neq .prim (.tmp 17) (.const (.int .i64 0)), none⟩])
      (.cond (.tmp 18) (.seq (.region false [⟨(some 19), .call (.const (.fn 10 [] [])) [], none⟩,
           ⟨(some 2), .take 19, none⟩])
        (.ret))
       (.skip)))
     (.seq (.region false [⟨(some 21), .mv (.tmp 3), none⟩,
         ⟨(some 22), .call (.const (.fn 11 [] [])) [(.inr (.tmp 21))], none⟩,
         ⟨(some 20), .mv (.tmp 22), none⟩,
         ⟨(some 23), .extract (.tmp 20) 0, none⟩,
         ⟨(some 24), .extract (.tmp 20) 1, none⟩,
         ⟨(some 25), .extract (.tmp 20) 2, none⟩,
         ⟨(some 5), .take 23, none⟩,
         ⟨(some 6), .take 24, none⟩,
         ⟨(some 7), .take 25, none⟩])
      (.seq (.region false [⟨(some 26), .mv (.tmp 7), none⟩,
          ⟨(some 27), .bin .eql .prim (.tmp 26) (.const (.int .i64 0)), none⟩,
          ⟨(some 28), .mv (.tmp 27), none⟩,
          ⟨(some 29), .mv (.tmp 6), (some (28, true))⟩,
          ⟨(some 30), .bin .eql .prim (.tmp 29) (.const (.int .i64 0)), (some (28, true))⟩,
          ⟨(some 31), .pick (.tmp 28) (.tmp 30) (.const (.bool false)), none⟩,
          ⟨(some 32), .mv (.tmp 31), none⟩,
          ⟨(some 33), .mv (.tmp 0), (some (32, true))⟩,
          ⟨(some 34), .mv (.tmp 5), (some (32, true))⟩,
          ⟨(some 35), .call (.const (.fn 13 [] [])) [(.inr (.tmp 33)), (.inr (.tmp 34))], (some (32, true))⟩,
          ⟨(some 36), .pick (.tmp 32) (.tmp 35) (.const (.bool false)), none⟩,
          ⟨(some 37), .mv (.tmp 36), none⟩,
          ⟨(some 38), .call (.const (.fn 10 [] [])) [], (some (37, true))⟩,
          ⟨(some 39), .pick (.tmp 37) (.tmp 38) (.const (.bool false)), none⟩,
          ⟨(some 2), .take 39, none⟩])
       (.ret))))))
def a_law08_LexBack : AFn := ⟨40, [.tmp 2], c_law08_LexBack, false⟩
def p_law08_LexBack : List Nat := [29, 30, 33, 34, 35, 38]
theorem t_law08_LexBack : cFn Tryd.prog takes Tryd.f6 = some a_law08_LexBack := by kernel_rfl
theorem n_law08_LexBack : (Tryd.f6.name == "runtime.NumGoroutine") = false := by kernel_rfl
/-- simulator/simulatorlaw08.LexNumbers -/
def c_law08_LexNumbers : ACode :=
  .seq (.region false [⟨(some 4), .mv (.const (.bool false)), none⟩])
  (.seq (.region false [⟨(some 15), .mv (.tmp 0), none⟩,
      ⟨(some 16), .call (.const (.fn 20 [] [])) [(.inr (.tmp 15))], none⟩,
      ⟨(some 14), .mv (.tmp 16), none⟩,
      ⟨(some 17), .extract (.tmp 14) 0, none⟩,
      ⟨(some 18), .extract (.tmp 14) 1, none⟩,
      ⟨(some 5), .take 17, none⟩,
      ⟨(some 6), .take 18, none⟩])
   (.seq (.region false [⟨(some 20), .mv (.tmp 0), none⟩,
       ⟨(some 21), .call (.const (.fn 21 [] [])) [(.inr (.tmp 20))], none⟩,
       ⟨(some 19), .mv (.tmp 21), none⟩,
       ⟨(some 22), .extract (.tmp 19) 0, none⟩,
       ⟨(some 23), .extract (.tmp 19) 1, none⟩,
       ⟨(some 7), .take 22, none⟩,
       ⟨(some 8), .take 23, none⟩])
    (.seq (.seq (.region false [⟨(some 24), .mv (.tmp 5), none⟩,
         ⟨(some 25), .mv (.tmp 7), none⟩,
         ⟨(some 26), .bin .neq .prim (.tmp 24) (.tmp 25), none⟩,
         ⟨(some 27), .mv (.tmp 26), none⟩,
         ⟨(some 28), .mv (.tmp 6), (some (27, false))⟩,
         ⟨(some 29), .mv (.tmp 8), (some (27, false))⟩,
         ⟨(some 30), .bin .neq .bool (.tmp 28) (.tmp 29), (some (27, false))⟩,
         ⟨(some 31), .pick (.tmp 27) (.const (.bool true)) (.tmp 30), none⟩,
         ⟨(some 32), .mv (.tmp 31), none⟩,
         ⟨(some 33), .mv (.tmp 6), (some (32, false))⟩,
         ⟨(some 34), .mv (.tmp 33), (some (32, false))⟩,
         ⟨(some 35), .mv (.tmp 5), (some (34, true))⟩,
         ⟨(some 36), .call (.const (.fn 22 [] [])) [(.inr (.tmp 35))], (some (34, true))⟩,
         ⟨(some 37), .mv (.tmp 0), (some (34, true))⟩,
         ⟨(some 38), .bin .neq .prim (.tmp 36) (.tmp 37), (some (34, true))⟩,
         ⟨(some 39), .pick (.tmp 34) (.tmp 38) (.const (.bool false)), (some (32, false))⟩,
         ⟨(some 40), .pick (.tmp 32) (.const (.bool true)) (.tmp 39), none⟩])
      (.cond (.tmp 40) (.seq (.region false [⟨(some 4), .mv (.const (.bool false)), none⟩])
        (.ret))
       (.skip)))
     (.seq (.region false [⟨(some 42), .mv (.tmp 1), none⟩,
         ⟨(some 43), .call (.const (.fn 22 [] [])) [(.inr (.tmp 42))], none⟩,
         ⟨(some 44), .call (.const (.fn 20 [] [])) [(.inr (.tmp 43))], none⟩,
         ⟨(some 41), .mv (.tmp 44), none⟩,
         ⟨(some 45), .extract (.tmp 41) 0, none⟩,
         ⟨(some 46), .extract (.tmp 41) 1, none⟩,
         ⟨(some 9), .take 45, none⟩,
         ⟨(some 10), .take 46, none⟩])
      (.seq (.seq (.region false [⟨(some 47), .mv (.tmp 10), none⟩,
           ⟨(some 48), .mv (.tmp 1), none⟩,
           ⟨(some 49), .bin .geq .prim (.tmp 48) (.const (.int .i64 0)), none⟩,
           ⟨(some 50), .mv (.tmp 49), none⟩,
           ⟨(some 51), .mv (.tmp 1), (some (50, true))⟩,
           ⟨(some 52), .bin .leq .prim (.tmp 51) (.const (.int .i64 1000000000000)), (some (50, true))⟩,
           ⟨(some 53), .pick (.tmp 50) (.tmp 52) (.const (.bool false)), none⟩,
           ⟨(some 54), .bin .neq .bool (.tmp 47) (.tmp 53), none⟩,
           ⟨(some 55), .mv (.tmp 54), none⟩,
           ⟨(some 56), .mv (.tmp 10), (some (55, false))⟩,
           ⟨(some 57), .mv (.tmp 56), (some (55, false))⟩,
           ⟨(some 58), .mv (.tmp 9), (some (57, true))⟩,
           ⟨(some 59), .mv (.tmp 1), (some (57, true))⟩,
           ⟨(some 60), .bin .neq .prim (.tmp 58) (.tmp 59), (some (57, true))⟩,
           ⟨(some 61), .pick (.tmp 57) (.tmp 60) (.const (.bool false)), (some (55, false))⟩,
           ⟨(some 62), .pick (.tmp 55) (.const (.bool true)) (.tmp 61), none⟩])
        (.cond (.tmp 62) (.seq (.region false [⟨(some 4), .mv (.const (.bool false)), none⟩])
          (.ret))
         (.skip)))
       (.seq (.region false [⟨(some 64), .mv (.tmp 1), none⟩,
           ⟨(some 65), .call (.const (.fn 22 [] [])) [(.inr (.tmp 64))], none⟩,
           ⟨(some 66), .call (.const (.fn 11 [] [])) [(.inr (.tmp 65))], none⟩,
           ⟨(some 63), .mv (.tmp 66), none⟩,
           ⟨(some 67), .extract (.tmp 63) 0, none⟩,
           ⟨(some 68), .extract (.tmp 63) 1, none⟩,
           ⟨(some 69), .extract (.tmp 63) 2, none⟩,
           ⟨(some 11), .take 67, none⟩,
           ⟨(some 12), .take 68, none⟩,
           ⟨(some 13), .take 69, none⟩])
        (.seq (.region false [⟨(some 70), .mv (.tmp 10), none⟩,
            ⟨(some 71), .un .not (.tmp 70), none⟩,
            ⟨(some 72), .mv (.tmp 71), none⟩,
            ⟨(some 73), .mv (.tmp 13), (some (72, false))⟩,
            ⟨(some 74), .bin .eql .prim (.tmp 73) (.const (.int .i64 0)), (some (72, false))⟩,
            ⟨(some 75), .mv (.tmp 74), (some (72, false))⟩,
            ⟨(some 76), .mv (.tmp 11), (some (75, true))⟩,
            ⟨(some 77), .len .slice (.tmp 76), (some (75, true))⟩,
            ⟨(some 78), .bin .eql .prim (.tmp 77) (.const (.int .i64 3)), (some (75, true))⟩,
            ⟨(some 79), .pick (.tmp 75) (.tmp 78) (.const (.bool false)), (some (72, false))⟩,
            ⟨(some 80), .mv (.tmp 79), (some (72, false))⟩,
            ⟨(some 81), .mv (.tmp 11), (some (80, true))⟩,
            ⟨(some 82), .ia (.slice 4) (.tmp 81) (.const (.int .i64 0)), (some (80, true))⟩,
            ⟨(some 83), .fa 2 (.tmp 82), (some (80, true))⟩,
            ⟨(some 84), .ldc (.tmp 83), (some (80, true))⟩,
            ⟨(some 85), .mv (.tmp 1), (some (80, true))⟩,
            ⟨(some 86), .bin .eql .prim (.tmp 84) (.tmp 85), (some (80, true))⟩,
            ⟨(some 87), .pick (.tmp 80) (.tmp 86) (.const (.bool false)), (some (72, false))⟩,
            ⟨(some 88), .mv (.tmp 87), (some (72, false))⟩,
            ⟨(some 89), .mv (.tmp 11), (some (88, true))⟩,
            ⟨(some 90), .ia (.slice 4) (.tmp 89) (.const (.int .i64 0)), (some (88, true))⟩,
            ⟨(some 91), .fa 0 (.tmp 90), (some (88, true))⟩,
            ⟨(some 92), .ldc (.tmp 91), (some (88, true))⟩,
            ⟨(some 93), .bin .eql .prim (.tmp 92) (.const (.int .i64 2)), (some (88, true))⟩,
            ⟨(some 94), .pick (.tmp 88) (.tmp 93) (.const (.bool false)), (some (72, false))⟩,
            ⟨(some 95), .pick (.tmp 72) (.const (.bool true)) (.tmp 94), none⟩,
            ⟨(some 96), .mv (.tmp 95), none⟩,
            ⟨(some 97), .call (.const (.fn 10 [] [])) [], (some (96, true))⟩,
            ⟨(some 98), .pick (.tmp 96) (.tmp 97) (.const (.bool false)), none⟩,
            ⟨(some 4), .take 98, none⟩])
         (.ret))))))))
def a_law08_LexNumbers : AFn := ⟨99, [.tmp 4], c_law08_LexNumbers, false⟩
def p_law08_LexNumbers : List Nat := [28, 29, 30, 33, 34, 35, 36, 37, 38, 39, 51, 52, 56, 57, 58, 59, 60, 61, 73, 74, 75, 76, 77, 78, 79, 80, 81, 82, 83, 84, 85, 86, 87, 88, 89, 90, 91, 92, 93, 94, 97]
theorem t_law08_LexNumbers : cFn Tryd.prog takes Tryd.f7 = some a_law08_LexNumbers := by kernel_rfl
theorem n_law08_LexNumbers : (Tryd.f7.name == "runtime.NumGoroutine") = false := by kernel_rfl
def c_law08_LexBlanks_l0b : ACode :=
  .seq (.seq (.region false [⟨(some 28), .mv (.tmp 7), none⟩,
      ⟨(some 29), .mv (.tmp 1), none⟩,
      ⟨(some 30), .len .str (.tmp 29), none⟩,
      ⟨(some 31), .bin .lss .prim (.tmp 28) (.tmp 30), none⟩])
   (.cond (.tmp 31) (.skip)
    (.exit 0)))
  (.seq (.block 1 (.seq (.region false [⟨(some 34), .mv (.tmp 1), none⟩,
        ⟨(some 35), .mv (.tmp 7), none⟩,
        ⟨(some 36), .idx (.tmp 34) (.tmp 35), none⟩,
        ⟨(some 37), .bin .eql .prim (.tmp 36) (.const (.int .u8 10)), none⟩])
     (.cond (.tmp 37) (.seq (.region false [⟨(some 38), .call (.const (.fn 10 [] [])) [], none⟩,
          ⟨(some 6), .take 38, none⟩])
       (.ret))
      (.skip))))
   (.region false [⟨(some 32), .mv (.tmp 7), none⟩,
      ⟨(some 33), .bin .add .prim (.tmp 32) (.const (.int .i64 1)), none⟩,
      ⟨(some 7), .take 33, none⟩]))
def c_law08_LexBlanks_l0 : ACode := .loop c_law08_LexBlanks_l0b
def c_law08_LexBlanks_l3b : ACode :=
  .seq (.seq (.region false [⟨(some 95), .mv (.tmp 18), none⟩,
      ⟨(some 96), .mv (.tmp 9), none⟩,
      ⟨(some 97), .len .slice (.tmp 96), none⟩,
      ⟨(some 98), .bin .lss .prim (.tmp 95) (.tmp 97), none⟩])
   (.cond (.tmp 98) (.skip)
    (.exit 2)))
  (.seq (.block 3 (.seq (.region true [⟨(some 101), .mv (.tmp 18), none⟩,
        ⟨(some 102), .mv (.tmp 9), none⟩,
        ⟨(some 103), .len .slice (.tmp 102), none⟩,
        ⟨(some 104), .bin .sub .prim (.tmp 103) (.const (.int .i64 1)), none⟩,
        ⟨(some 105), .bin .lss .prim (.tmp 101) (.tmp 104), none⟩,
        ⟨(some 106), .mv (.tmp 105), none⟩,
        ⟨(some 107), .mv (.tmp 9), (some (106, true))⟩,
        ⟨(some 108), .mv (.tmp 18), (some (106, true))⟩,
        ⟨(some 109), .ia (.slice 4) (.tmp 107) (.tmp 108), (some (106, true))⟩,
        ⟨(some 110), .lda 4 (.tmp 109), (some (106, true))⟩,
        ⟨(some 111), .mv (.tmp 15), (some (106, true))⟩,
        ⟨(some 112), .mv (.tmp 18), (some (106, true))⟩,
        ⟨(some 113), .ia (.slice 4) (.tmp 111) (.tmp 112), (some (106, true))⟩,
        ⟨(some 114), .lda 4 (.tmp 113), (some (106, true))⟩,
        ⟨(some 115), .bin .neq (.struct [.int, .str, .int, .int]) (.tmp 110) (.tmp 114), (some (106, true))⟩,
        ⟨(some 116), .pick (.tmp 106) (.tmp 115) (.const (.bool false)), none⟩,
        ⟨(some 117), .mv (.tmp 116), none⟩,
        ⟨(some 118), .mv (.tmp 18), (some (117, false))⟩,
        ⟨(some 119), .mv (.tmp 9), (some (117, false))⟩,
        ⟨(some 120), .len .slice (.tmp 119), (some (117, false))⟩,
        ⟨(some 121), .bin .sub .prim (.tmp 120) (.const (.int .i64 1)), (some (117, false))⟩,
        ⟨(some 122), .bin .eql .prim (.tmp 118) (.tmp 121), (some (117, false))⟩,
        ⟨(some 123), .mv (.tmp 122), (some (117, false))⟩,
        ⟨(some 124), .mv (.tmp 15), (some (123, true))⟩,
        ⟨(some 125), .mv (.tmp 18), (some (123, true))⟩,
        ⟨(some 126), .ia (.slice 4) (.tmp 124) (.tmp 125), (some (123, true))⟩,
        ⟨(some 127), .fa 3 (.tmp 126), (some (123, true))⟩,
        ⟨(some 128), .ldc (.tmp 127), (some (123, true))⟩,
        ⟨(some 129), .mv (.tmp 9), (some (123, true))⟩,
        ⟨(some 130), .mv (.tmp 18), (some (123, true))⟩,
        ⟨(some 131), .ia (.slice 4) (.tmp 129) (.tmp 130), (some (123, true))⟩,
        ⟨(some 132), .fa 3 (.tmp 131), (some (123, true))⟩,
        ⟨(some 133), .ldc (.tmp 132), (some (123, true))⟩,
        ⟨(some 134), .bin .add .prim (.tmp 133) (.const (.int .i64 1)), (some (123, true))⟩,
        ⟨(some 135), .bin .neq .prim (.tmp 128) (.tmp 134), (some (123, true))⟩,
        ⟨(some 136), .pick (.tmp 123) (.tmp 135) (.const (.bool false)), (some (117, false))⟩,
        ⟨(some 137), .pick (.tmp 117) (.const (.bool true)) (.tmp 136), none⟩])
     (.cond (.tmp 137) (.seq (.region false [⟨(some 6), .mv (.const (.bool false)), none⟩])
       (.ret))
      (.skip))))
   (.region false [⟨(some 99), .mv (.tmp 18), none⟩,
      ⟨(some 100), .bin .add .prim (.tmp 99) (.const (.int .i64 1)), none⟩,
      ⟨(some 18), .take 100, none⟩]))
def c_law08_LexBlanks_l3 : ACode := .loop c_law08_LexBlanks_l3b
def c_law08_LexBlanks_j4 : ACode :=
  .seq (.region false [⟨(some 138), .call (.const (.fn 10 [] [])) [], none⟩,
     ⟨(some 6), .take 138, none⟩])
  (.ret)
def c_law08_LexBlanks_j2 : ACode :=
  .seq (.region false [⟨(some 41), .mv (.tmp 0), none⟩,
     ⟨(some 42), .call (.const (.fn 11 [] [])) [(.inr (.tmp 41))], none⟩,
     ⟨(some 40), .mv (.tmp 42), none⟩,
     ⟨(some 43), .extract (.tmp 40) 0, none⟩,
     ⟨(some 44), .extract (.tmp 40) 1, none⟩,
     ⟨(some 45), .extract (.tmp 40) 2, none⟩,
     ⟨(some 9), .take 43, none⟩,
     ⟨(some 10), .take 44, none⟩,
     ⟨(some 11), .take 45, none⟩])
  (.seq (.region false [⟨(some 47), .mv (.tmp 0), none⟩,
      ⟨(some 48), .mv (.tmp 8), none⟩,
      ⟨(some 49), .bin .add .prim (.tmp 47) (.tmp 48), none⟩,
      ⟨(some 50), .bin .add .prim (.tmp 49) (.const (.str [35])), none⟩,
      ⟨(some 51), .mv (.tmp 1), none⟩,
      ⟨(some 52), .bin .add .prim (.tmp 50) (.tmp 51), none⟩,
      ⟨(some 53), .call (.const (.fn 11 [] [])) [(.inr (.tmp 52))], none⟩,
      ⟨(some 46), .mv (.tmp 53), none⟩,
      ⟨(some 54), .extract (.tmp 46) 0, none⟩,
      ⟨(some 55), .extract (.tmp 46) 1, none⟩,
      ⟨(some 56), .extract (.tmp 46) 2, none⟩,
      ⟨(some 12), .take 54, none⟩,
      ⟨(some 13), .take 55, none⟩,
      ⟨(some 14), .take 56, none⟩])
   (.seq (.region false [⟨(some 58), .mv (.tmp 0), none⟩,
       ⟨(some 59), .bin .add .prim (.tmp 58) (.const (.str [10])), none⟩,
       ⟨(some 60), .call (.const (.fn 11 [] [])) [(.inr (.tmp 59))], none⟩,
       ⟨(some 57), .mv (.tmp 60), none⟩,
       ⟨(some 61), .extract (.tmp 57) 0, none⟩,
       ⟨(some 62), .extract (.tmp 57) 1, none⟩,
       ⟨(some 63), .extract (.tmp 57) 2, none⟩,
       ⟨(some 15), .take 61, none⟩,
       ⟨(some 16), .take 62, none⟩,
       ⟨(some 17), .take 63, none⟩])
    (.seq (.seq (.region false [⟨(some 64), .mv (.tmp 9), none⟩,
         ⟨(some 65), .mv (.tmp 12), none⟩,
         ⟨(some 66), .call (.const (.fn 13 [] [])) [(.inr (.tmp 64)), (.inr (.tmp 65))], none⟩,
         ⟨(some 67), .un .not (.tmp 66), none⟩,
         ⟨(some 68), .mv (.tmp 67), none⟩,
         ⟨(some 69), .mv (.tmp 10), (some (68, false))⟩,
         ⟨(some 70), .mv (.tmp 13), (some (68, false))⟩,
         ⟨(some 71), .bin .neq .prim (.tmp 69) (.tmp 70), (some (68, false))⟩,
         ⟨(some 72), .pick (.tmp 68) (.const (.bool true)) (.tmp 71), none⟩,
         ⟨(some 73), .mv (.tmp 72), none⟩,
         ⟨(some 74), .mv (.tmp 11), (some (73, false))⟩,
         ⟨(some 75), .mv (.tmp 14), (some (73, false))⟩,
         ⟨(some 76), .bin .neq .prim (.tmp 74) (.tmp 75), (some (73, false))⟩,
         ⟨(some 77), .pick (.tmp 73) (.const (.bool true)) (.tmp 76), none⟩,
         ⟨(some 78), .mv (.tmp 77), none⟩,
         ⟨(some 79), .mv (.tmp 17), (some (78, false))⟩,
         ⟨(some 80), .mv (.tmp 11), (some (78, false))⟩,
         ⟨(some 81), .bin .neq .prim (.tmp 79) (.tmp 80), (some (78, false))⟩,
         ⟨(some 82), .pick (.tmp 78) (.const (.bool true)) (.tmp 81), none⟩,
         ⟨(some 83), .mv (.tmp 82), none⟩,
         ⟨(some 84), .mv (.tmp 16), (some (83, false))⟩,
         ⟨(some 85), .mv (.tmp 10), (some (83, false))⟩,
         ⟨(some 86), .bin .neq .prim (.tmp 84) (.tmp 85), (some (83, false))⟩,
         ⟨(some 87), .pick (.tmp 83) (.const (.bool true)) (.tmp 86), none⟩,
         ⟨(some 88), .mv (.tmp 87), none⟩,
         ⟨(some 89), .mv (.tmp 15), (some (88, false))⟩,
         ⟨(some 90), .len .slice (.tmp 89), (some (88, false))⟩,
         ⟨(some 91), .mv (.tmp 9), (some (88, false))⟩,
         ⟨(some 92), .len .slice (.tmp 91), (some (88, false))⟩,
         ⟨(some 93), .bin .neq .prim (.tmp 90) (.tmp 92), (some (88, false))⟩,
         ⟨(some 94), .pick (.tmp 88) (.const (.bool true)) (.tmp 93), none⟩])
      (.cond (.tmp 94) (.seq (.region false [⟨(some 6), .mv (.const (.bool false)), none⟩])
        (.ret))
       (.skip)))
     (.seq (.seq (.region false [⟨(some 18), .mv (.const (.int .i64 0)), none⟩])
       (.block 2 (c_law08_LexBlanks_l3)))
      c_law08_LexBlanks_j4))))
def c_law08_LexBlanks_j1 : ACode :=
  .seq (.region false [⟨(some 8), .mv (.const (.str [32, 32])), none⟩])
  (.seq (.seq (.region false [⟨(some 39), .mv (.tmp 2), none⟩])
    (.cond (.tmp 39) (.region false [⟨(some 8), .mv (.const (.str [32, 9])), none⟩])
     (.skip)))
   c_law08_LexBlanks_j2)
/-- simulator/simulatorlaw08.LexBlanks -/
def c_law08_LexBlanks : ACode :=
  .seq (.region false [⟨(some 6), .mv (.const (.bool false)), none⟩])
  (.seq (.seq (.region false [⟨(some 19), .mv (.tmp 0), none⟩,
       ⟨(some 20), .len .str (.tmp 19), none⟩,
       ⟨(some 21), .bin .gtr .prim (.tmp 20) (.const (.int .i64 300)), none⟩,
       ⟨(some 22), .mv (.tmp 21), none⟩,
       ⟨(some 23), .mv (.tmp 1), (some (22, false))⟩,
       ⟨(some 24), .len .str (.tmp 23), (some (22, false))⟩,
       ⟨(some 25), .bin .gtr .prim (.tmp 24) (.const (.int .i64 100)), (some (22, false))⟩,
       ⟨(some 26), .pick (.tmp 22) (.const (.bool true)) (.tmp 25), none⟩])
    (.cond (.tmp 26) (.seq (.region false [⟨(some 27), .call (.const (.fn 10 [] [])) [], none⟩,
         ⟨(some 6), .take 27, none⟩])
      (.ret))
     (.skip)))
   (.seq (.seq (.region false [⟨(some 7), .mv (.const (.int .i64 0)), none⟩])
     (.block 0 (c_law08_LexBlanks_l0)))
    c_law08_LexBlanks_j1))
def a_law08_LexBlanks : AFn := ⟨139, [.tmp 6], c_law08_LexBlanks, false⟩
def p_law08_LexBlanks : List Nat := [23, 24, 25, 69, 70, 71, 74, 75, 76, 79, 80, 81, 84, 85, 86, 89, 90, 91, 92, 93, 107, 108, 109, 110, 111, 112, 113, 114, 115, 118, 119, 120, 121, 122, 123, 124, 125, 126, 127, 128, 129, 130, 131, 132, 133, 134, 135, 136]
theorem t_law08_LexBlanks : cFn Tryd.prog takes Tryd.f8 = some a_law08_LexBlanks := by kernel_rfl
theorem n_law08_LexBlanks : (Tryd.f8.name == "runtime.NumGoroutine") = false := by kernel_rfl
def c_law08_LexLong_l0b : ACode :=
  .seq (.seq (.region false [⟨(some 17), .mv (.tmp 4), none⟩,
      ⟨(some 18), .mv (.tmp 0), none⟩,
      ⟨(some 19), .bin .lss .prim (.tmp 17) (.tmp 18), none⟩])
   (.cond (.tmp 19) (.skip)
    (.exit 0)))
  (.seq (.block 1 (.region false [⟨(some 22), .mv (.tmp 3), none⟩,
       ⟨(some 23), .mv (.tmp 4), none⟩,
       ⟨(some 24), .ia (.slice 1) (.tmp 22) (.tmp 23), none⟩,
       ⟨none, .st 1 (.tmp 24) (.const (.int .u8 97)), none⟩]))
   (.region false [⟨(some 20), .mv (.tmp 4), none⟩,
      ⟨(some 21), .bin .add .prim (.tmp 20) (.const (.int .i64 1)), none⟩,
      ⟨(some 4), .take 21, none⟩]))
def c_law08_LexLong_l0 : ACode := .loop c_law08_LexLong_l0b
def c_law08_LexLong_j1 : ACode :=
  .seq (.region false [⟨(some 26), .mv (.tmp 3), none⟩,
     ⟨(some 27), .conv .ofBytes (.tmp 26), none⟩,
     ⟨(some 28), .call (.const (.fn 11 [] [])) [(.inr (.tmp 27))], none⟩,
     ⟨(some 25), .mv (.tmp 28), none⟩,
     ⟨(some 29), .extract (.tmp 25) 0, none⟩,
     ⟨(some 30), .extract (.tmp 25) 1, none⟩,
     ⟨(some 31), .extract (.tmp 25) 2, none⟩,
     ⟨(some 5), .take 29, none⟩,
     ⟨(some 6), .take 30, none⟩,
     ⟨(some 7), .take 31, none⟩])
  (.seq (.seq (.region false [⟨(some 32), .mv (.tmp 0), none⟩,
       ⟨(some 33), .bin .gtr .prim (.tmp 32) (.const (.int .i64 20000)), none⟩])
    (.cond (.tmp 33) (.seq (.region false [⟨(some 34), .mv (.tmp 7), none⟩,
         ⟨(some 35), .bin .eql .prim (.tmp 34) (.const (.int .i64 6)), none⟩,
         ⟨(some 36), .mv (.tmp 35), none⟩,
         ⟨(some 37), .mv (.tmp 6), (some (36, true))⟩,
         ⟨(some 38), .bin .eql .prim (.tmp 37) (.const (.int .i64 0)), (some (36, true))⟩,
         ⟨(some 39), .pick (.tmp 36) (.tmp 38) (.const (.bool false)), none⟩,
         ⟨(some 40), .mv (.tmp 39), none⟩,
         ⟨(some 41), .mv (.tmp 5), (some (40, true))⟩,
         ⟨(some 42), .len .slice (.tmp 41), (some (40, true))⟩,
         ⟨(some 43), .bin .eql .prim (.tmp 42) (.const (.int .i64 0)), (some (40, true))⟩,
         ⟨(some 44), .pick (.tmp 40) (.tmp 43) (.const (.bool false)), none⟩,
         ⟨(some 45), .mv (.tmp 44), none⟩,
         ⟨(some 46), .call (.const (.fn 10 [] [])) [], (some (45, true))⟩,
         ⟨(some 47), .pick (.tmp 45) (.tmp 46) (.const (.bool false)), none⟩,
         ⟨(some 2), .take 47, none⟩])
      (.ret))
     (.skip)))
   (.seq (.region false [⟨(some 48), .mv (.tmp 7), none⟩,
       ⟨(some 49), .bin .eql .prim (.tmp 48) (.const (.int .i64 0)), none⟩,
       ⟨(some 50), .mv (.tmp 49), none⟩,
       ⟨(some 51), .mv (.tmp 6), (some (50, true))⟩,
       ⟨(some 52), .bin .eql .prim (.tmp 51) (.const (.int .i64 0)), (some (50, true))⟩,
       ⟨(some 53), .pick (.tmp 50) (.tmp 52) (.const (.bool false)), none⟩,
       ⟨(some 54), .mv (.tmp 53), none⟩,
       ⟨(some 55), .mv (.tmp 5), (some (54, true))⟩,
       ⟨(some 56), .len .slice (.tmp 55), (some (54, true))⟩,
       ⟨(some 57), .bin .eql .prim (.tmp 56) (.const (.int .i64 3)), (some (54, true))⟩,
       ⟨(some 58), .pick (.tmp 54) (.tmp 57) (.const (.bool false)), none⟩,
       ⟨(some 59), .mv (.tmp 58), none⟩,
       ⟨(some 60), .mv (.tmp 5), (some (59, true))⟩,
       ⟨(some 61), .ia (.slice 4) (.tmp 60) (.const (.int .i64 0)), (some (59, true))⟩,
       ⟨(some 62), .fa 1 (.tmp 61), (some (59, true))⟩,
       ⟨(some 63), .ldc (.tmp 62), (some (59, true))⟩,
       ⟨(some 64), .len .str (.tmp 63), (some (59, true))⟩,
       ⟨(some 65), .mv (.tmp 0), (some (59, true))⟩,
       ⟨(some 66), .bin .eql .prim (.tmp 64) (.tmp 65), (some (59, true))⟩,
       ⟨(some 67), .pick (.tmp 59) (.tmp 66) (.const (.bool false)), none⟩,
       ⟨(some 68), .mv (.tmp 67), none⟩,
       ⟨(some 69), .call (.const (.fn 10 [] [])) [], (some (68, true))⟩,
       ⟨(some 70), .pick (.tmp 68) (.tmp 69) (.const (.bool false)), none⟩,
       ⟨(some 2), .take 70, none⟩])
    (.ret)))
/-- simulator/simulatorlaw08.LexLong -/
def c_law08_LexLong : ACode :=
  .seq (.region false [⟨(some 2), .mv (.const (.bool false)), none⟩])
  (.seq (.seq (.region false [⟨(some 8), .mv (.tmp 0), none⟩,
       ⟨(some 9), .bin .lss .prim (.tmp 8) (.const (.int .i64 19990)), none⟩,
       ⟨(some 10), .mv (.tmp 9), none⟩,
       ⟨(some 11), .mv (.tmp 0), (some (10, false))⟩,
       ⟨(some 12), .bin .gtr .prim (.tmp 11) (.const (.int .i64 20010)), (some (10, false))⟩,
       ⟨(some 13), .pick (.tmp 10) (.const (.bool true)) (.tmp 12), none⟩])
    (.cond (.tmp 13) (.seq (.region false [⟨(some 14), .call (.const (.fn 10 [] [])) [], none⟩,
         ⟨(some 2), .take 14, none⟩])
      (.ret))
     (.skip)))
   (.seq (.region false [⟨(some 15), .mv (.tmp 0), none⟩,
       ⟨(some 16), .mksl 5 [(.int .u8 0)] (.tmp 15), none⟩,
       ⟨(some 3), .take 16, none⟩])
    (.seq (.seq (.region false [⟨(some 4), .mv (.const (.int .i64 0)), none⟩])
      (.block 0 (c_law08_LexLong_l0)))
     c_law08_LexLong_j1)))
def a_law08_LexLong : AFn := ⟨71, [.tmp 2], c_law08_LexLong, false⟩
def p_law08_LexLong : List Nat := [11, 12, 37, 38, 41, 42, 43, 46, 51, 52, 55, 56, 57, 60, 61, 62, 63, 64, 65, 66, 69]
theorem t_law08_LexLong : cFn Tryd.prog takes Tryd.f9 = some a_law08_LexLong := by kernel_rfl
theorem n_law08_LexLong : (Tryd.f9.name == "runtime.NumGoroutine") = false := by kernel_rfl
def c_r08_Tokens_l2b : ACode :=
  .seq (.seq (.region false [⟨(some 71), .mv (.tmp 8), none⟩,
      ⟨(some 72), .mv (.tmp 0), none⟩,
      ⟨(some 73), .len .str (.tmp 72), none⟩,
      ⟨(some 74), .bin .lss .prim (.tmp 71) (.tmp 73), none⟩,
      ⟨(some 75), .mv (.tmp 74), none⟩,
      ⟨(some 76), .mv (.tmp 0), (some (75, true))⟩,
      ⟨(some 77), .mv (.tmp 8), (some (75, true))⟩,
      ⟨(some 78), .idx (.tmp 76) (.tmp 77), (some (75, true))⟩,
      ⟨(some 79), .bin .neq .prim (.tmp 78) (.const (.int .u8 10)), (some (75, true))⟩,
      ⟨(some 80), .pick (.tmp 75) (.tmp 79) (.const (.bool false)), none⟩])
   (.cond (.tmp 80) (.skip)
    (.exit 3)))
  (.block 4 (.region false [⟨(some 81), .mv (.tmp 8), none⟩,
      ⟨(some 82), .bin .add .prim (.tmp 81) (.const (.int .i64 1)), none⟩,
      ⟨(some 8), .take 82, none⟩]))
def c_r08_Tokens_l2 : ACode := .loop c_r08_Tokens_l2b
def c_r08_Tokens_j3 : ACode :=
  .seq (.region false [⟨(some 7), .mv (.const (.bool false)), none⟩])
  (.seq (.region false [⟨(some 91), .mv (.tmp 6), none⟩,
      ⟨(some 92), .bin .add .prim (.tmp 91) (.const (.int .i64 1)), none⟩,
      ⟨(some 6), .take 92, none⟩])
   (.region false [⟨(some 93), .mv (.tmp 8), none⟩,
      ⟨(some 94), .bin .add .prim (.tmp 93) (.const (.int .i64 1)), none⟩,
      ⟨(some 8), .take 94, none⟩]))
def c_r08_Tokens_j5 : ACode :=
  .seq (.seq (.region false [⟨(some 54), .mv (.tmp 9), none⟩,
      ⟨(some 55), .bin .eql .prim (.tmp 54) (.const (.int .i64 0)), none⟩])
   (.cond (.tmp 55) (.seq (.region false [⟨(some 56), .take 6, none⟩,
        ⟨(some 2), .mv (.const (.own 4 [])), none⟩,
        ⟨(some 3), .take 56, none⟩,
        ⟨(some 4), .mv (.const (.int .i64 8)), none⟩])
     (.ret))
    (.skip)))
  (.seq (.region false [⟨(some 57), .take 5, none⟩,
      ⟨(some 58), .lda 4 (.tmp 10), none⟩,
      ⟨(some 59), .lit 31 4 [(.tmp 58)], none⟩,
      ⟨(some 60), .app 4 40 57 (.tmp 59), none⟩,
      ⟨(some 5), .take 60, none⟩])
   (.seq (.region false [⟨(some 7), .mv (.const (.bool true)), none⟩])
    (.region false [⟨(some 61), .mv (.tmp 8), none⟩,
       ⟨(some 62), .mv (.tmp 9), none⟩,
       ⟨(some 63), .bin .add .prim (.tmp 61) (.tmp 62), none⟩,
       ⟨(some 8), .take 63, none⟩])))
def c_r08_Tokens_j4 : ACode :=
  .seq (.seq (.region false [⟨(some 39), .fa 1 (.tmp 10), none⟩,
      ⟨(some 40), .ldc (.tmp 39), none⟩,
      ⟨(some 41), .call (.const (.fn 27 [] [])) [(.inr (.tmp 40))], none⟩])
   (.cond (.tmp 41) (.seq (.region false [⟨(some 43), .fa 1 (.tmp 10), none⟩,
        ⟨(some 44), .ldc (.tmp 43), none⟩,
        ⟨(some 45), .call (.const (.fn 21 [] [])) [(.inr (.tmp 44))], none⟩,
        ⟨(some 42), .mv (.tmp 45), none⟩,
        ⟨(some 46), .extract (.tmp 42) 0, none⟩,
        ⟨(some 47), .extract (.tmp 42) 1, none⟩,
        ⟨(some 11), .take 46, none⟩,
        ⟨(some 12), .take 47, none⟩])
     (.seq (.seq (.region false [⟨(some 48), .mv (.tmp 12), none⟩,
          ⟨(some 49), .un .not (.tmp 48), none⟩])
       (.cond (.tmp 49) (.seq (.region false [⟨(some 50), .take 6, none⟩,
            ⟨(some 2), .mv (.const (.own 4 [])), none⟩,
            ⟨(some 3), .take 50, none⟩,
            ⟨(some 4), .mv (.const (.int .i64 8)), none⟩])
         (.ret))
        (.skip)))
      (.region false [⟨(some 51), .mv (.tmp 11), none⟩,
         ⟨(some 52), .mv (.tmp 6), none⟩,
         ⟨(some 53), .build [(.int .i64 0), (.str []), (.int .i64 0), (.int .i64 0)] [(0, 1, (.const (.int .i64 2))), (2, 1, (.tmp 51)), (3, 1, (.tmp 52))], none⟩,
         ⟨none, .st 4 (.tmp 10) (.tmp 53), none⟩])))
    (.skip)))
  c_r08_Tokens_j5
def c_r08_Tokens_j1 : ACode :=
  .cond (.tmp 64) (.region false [⟨(some 67), .mv (.tmp 8), none⟩,
     ⟨(some 68), .bin .add .prim (.tmp 67) (.const (.int .i64 1)), none⟩,
     ⟨(some 8), .take 68, none⟩])
  (.seq (.region false [⟨(some 70), .bin .eql .prim (.tmp 22) (.const (.int .u8 35)), none⟩,
      ⟨(some 69), .take 70, none⟩])
   (.cond (.tmp 69) (.block 3 (c_r08_Tokens_l2))
    (.seq (.region false [⟨(some 84), .bin .eql .prim (.tmp 22) (.const (.int .u8 10)), none⟩,
        ⟨(some 83), .take 84, none⟩])
     (.cond (.tmp 83) (.seq (.seq (.region false [⟨(some 85), .mv (.tmp 7), none⟩])
        (.cond (.tmp 85) (.region false [⟨(some 86), .take 5, none⟩,
            ⟨(some 87), .mv (.tmp 6), none⟩,
            ⟨(some 88), .build [(.int .i64 0), (.str []), (.int .i64 0), (.int .i64 0)] [(0, 1, (.const (.int .i64 4))), (3, 1, (.tmp 87))], none⟩,
            ⟨(some 89), .lit 31 4 [(.tmp 88)], none⟩,
            ⟨(some 90), .app 4 40 86 (.tmp 89), none⟩,
            ⟨(some 5), .take 90, none⟩])
         (.skip)))
       c_r08_Tokens_j3)
      (.seq (.region false [⟨(some 23), .mv (.tmp 0), none⟩,
          ⟨(some 24), .mv (.tmp 8), none⟩,
          ⟨(some 25), .slice .str (.tmp 23) (some (.tmp 24)) none, none⟩,
          ⟨(some 26), .call (.const (.fn 25 [] [])) [(.inr (.tmp 25))], none⟩,
          ⟨(some 9), .take 26, none⟩])
       (.seq (.region false [⟨(some 27), .mv (.tmp 0), none⟩,
           ⟨(some 28), .mv (.tmp 8), none⟩,
           ⟨(some 29), .mv (.tmp 8), none⟩,
           ⟨(some 30), .mv (.tmp 9), none⟩,
           ⟨(some 31), .bin .add .prim (.tmp 29) (.tmp 30), none⟩,
           ⟨(some 32), .slice .str (.tmp 27) (some (.tmp 28)) (some (.tmp 31)), none⟩,
           ⟨(some 33), .mv (.tmp 6), none⟩,
           ⟨(some 34), .build [(.int .i64 0), (.str []), (.int .i64 0), (.int .i64 0)] [(0, 1, (.const (.int .i64 3))), (1, 1, (.tmp 32)), (3, 1, (.tmp 33))], none⟩,
           ⟨(some 10), .mk 31 [(.int .i64 0), (.str []), (.int .i64 0), (.int .i64 0)], none⟩,
           ⟨none, .st 4 (.tmp 10) (.tmp 34), none⟩])
        (.seq (.seq (.region false [⟨(some 35), .fa 1 (.tmp 10), none⟩,
             ⟨(some 36), .ldc (.tmp 35), none⟩,
             ⟨(some 37), .call (.const (.fn 26 [] [])) [(.inr (.tmp 36))], none⟩])
          (.cond (.tmp 37) (.region false [⟨(some 38), .fa 0 (.tmp 10), none⟩,
              ⟨none, .st 1 (.tmp 38) (.const (.int .i64 1)), none⟩])
           (.skip)))
         c_r08_Tokens_j4)))))))
def c_r08_Tokens_l0b : ACode :=
  .seq (.seq (.region false [⟨(some 16), .mv (.tmp 8), none⟩,
      ⟨(some 17), .mv (.tmp 0), none⟩,
      ⟨(some 18), .len .str (.tmp 17), none⟩,
      ⟨(some 19), .bin .lss .prim (.tmp 16) (.tmp 18), none⟩])
   (.cond (.tmp 19) (.skip)
    (.exit 0)))
  (.block 1 (.seq (.region false [⟨(some 20), .mv (.tmp 0), none⟩,
       ⟨(some 21), .mv (.tmp 8), none⟩,
       ⟨(some 22), .idx (.tmp 20) (.tmp 21), none⟩])
    (.block 2 (.seq (.seq (.region false [⟨(some 65), .bin .eql .prim (.tmp 22) (.const (.int .u8 32)), none⟩,
          ⟨(some 64), .take 65, none⟩])
       (.cond (.tmp 64) (.skip)
        (.region false [⟨(some 66), .bin .eql .prim (.tmp 22) (.const (.int .u8 9)), none⟩,
           ⟨(some 64), .take 66, none⟩])))
      c_r08_Tokens_j1))))
def c_r08_Tokens_l0 : ACode := .loop c_r08_Tokens_l0b
def c_r08_Tokens_j7 : ACode :=
  .seq (.region false [⟨(some 101), .take 5, none⟩,
     ⟨(some 102), .mv (.tmp 6), none⟩,
     ⟨(some 103), .build [(.int .i64 0), (.str []), (.int .i64 0), (.int .i64 0)] [(0, 1, (.const (.int .i64 0))), (3, 1, (.tmp 102))], none⟩,
     ⟨(some 104), .lit 31 4 [(.tmp 103)], none⟩,
     ⟨(some 105), .app 4 40 101 (.tmp 104), none⟩,
     ⟨(some 2), .take 105, none⟩,
     ⟨(some 3), .mv (.const (.int .i64 0)), none⟩,
     ⟨(some 4), .mv (.const (.int .i64 0)), none⟩])
  (.ret)
def c_r08_Tokens_j6 : ACode :=
  .seq (.seq (.region false [⟨(some 95), .mv (.tmp 7), none⟩])
   (.cond (.tmp 95) (.region false [⟨(some 96), .take 5, none⟩,
       ⟨(some 97), .mv (.tmp 6), none⟩,
       ⟨(some 98), .build [(.int .i64 0), (.str []), (.int .i64 0), (.int .i64 0)] [(0, 1, (.const (.int .i64 4))), (3, 1, (.tmp 97))], none⟩,
       ⟨(some 99), .lit 31 4 [(.tmp 98)], none⟩,
       ⟨(some 100), .app 4 40 96 (.tmp 99), none⟩,
       ⟨(some 5), .take 100, none⟩])
    (.skip)))
  c_r08_Tokens_j7
/-- simulator/simulatorref08.Tokens -/
def c_r08_Tokens : ACode :=
  .seq (.region false [⟨(some 2), .mv (.const (.own 4 [])), none⟩,
     ⟨(some 3), .mv (.const (.int .i64 0)), none⟩,
     ⟨(some 4), .mv (.const (.int .i64 0)), none⟩])
  (.seq (.seq (.region false [⟨(some 13), .mv (.tmp 0), none⟩,
       ⟨(some 14), .len .str (.tmp 13), none⟩,
       ⟨(some 15), .bin .gtr .prim (.tmp 14) (.const (.int .i64 20000)), none⟩])
    (.cond (.tmp 15) (.seq (.region false [⟨(some 2), .mv (.const (.own 4 [])), none⟩,
         ⟨(some 3), .mv (.const (.int .i64 0)), none⟩,
         ⟨(some 4), .mv (.const (.int .i64 6)), none⟩])
      (.ret))
     (.skip)))
   (.seq (.region false [⟨(some 5), .mv (.const (.own 4 [])), none⟩])
    (.seq (.region false [⟨(some 6), .mv (.const (.int .i64 1)), none⟩,
        ⟨(some 7), .mv (.const (.bool false)), none⟩])
     (.seq (.seq (.region false [⟨(some 8), .mv (.const (.int .i64 0)), none⟩])
       (.block 0 (c_r08_Tokens_l0)))
      c_r08_Tokens_j6))))
def a_r08_Tokens : AFn := ⟨106, [.tmp 2, .tmp 3, .tmp 4], c_r08_Tokens, false⟩
def p_r08_Tokens : List Nat := [76, 77, 78, 79]
theorem t_r08_Tokens : cFn Tryd.prog takes Tryd.f12 = some a_r08_Tokens := by kernel_rfl
theorem n_r08_Tokens : (Tryd.f12.name == "runtime.NumGoroutine") = false := by kernel_rfl
def c_r08_Same_l0b : ACode :=
  .seq (.seq (.region false [⟨(some 11), .mv (.tmp 5), none⟩,
      ⟨(some 12), .mv (.tmp 0), none⟩,
      ⟨(some 13), .len .slice (.tmp 12), none⟩,
      ⟨(some 14), .bin .lss .prim (.tmp 11) (.tmp 13), none⟩])
   (.cond (.tmp 14) (.skip)
    (.exit 0)))
  (.seq (.block 1 (.seq (.region true [⟨(some 17), .mv (.tmp 0), none⟩,
        ⟨(some 18), .mv (.tmp 5), none⟩,
        ⟨(some 19), .ia (.slice 4) (.tmp 17) (.tmp 18), none⟩,
        ⟨(some 20), .lda 4 (.tmp 19), none⟩,
        ⟨(some 21), .mv (.tmp 1), none⟩,
        ⟨(some 22), .mv (.tmp 5), none⟩,
        ⟨(some 23), .ia (.slice 4) (.tmp 21) (.tmp 22), none⟩,
        ⟨(some 24), .lda 4 (.tmp 23), none⟩,
        ⟨(some 25), .bin .neq (.struct [.int, .str, .int, .int]) (.tmp 20) (.tmp 24), none⟩])
     (.cond (.tmp 25) (.seq (.region false [⟨(some 4), .mv (.const (.bool false)), none⟩])
       (.ret))
      (.skip))))
   (.region false [⟨(some 15), .mv (.tmp 5), none⟩,
      ⟨(some 16), .bin .add .prim (.tmp 15) (.const (.int .i64 1)), none⟩,
      ⟨(some 5), .take 16, none⟩]))
def c_r08_Same_l0 : ACode := .loop c_r08_Same_l0b
def c_r08_Same_j1 : ACode :=
  .seq (.region false [⟨(some 4), .mv (.const (.bool true)), none⟩])
  (.ret)
/-- simulator/simulatorref08.Same -/
def c_r08_Same : ACode :=
  .seq (.region false [⟨(some 4), .mv (.const (.bool false)), none⟩])
  (.seq (.seq (.region false [⟨(some 6), .mv (.tmp 0), none⟩,
       ⟨(some 7), .len .slice (.tmp 6), none⟩,
       ⟨(some 8), .mv (.tmp 1), none⟩,
       ⟨(some 9), .len .slice (.tmp 8), none⟩,
       ⟨(some 10), .bin .neq .prim (.tmp 7) (.tmp 9), none⟩])
    (.cond (.tmp 10) (.seq (.region false [⟨(some 4), .mv (.const (.bool false)), none⟩])
      (.ret))
     (.skip)))
   (.seq (.seq (.region false [⟨(some 5), .mv (.const (.int .i64 0)), none⟩])
     (.block 0 (c_r08_Same_l0)))
    c_r08_Same_j1))
def a_r08_Same : AFn := ⟨26, [.tmp 4], c_r08_Same, false⟩
def p_r08_Same : List Nat := []
theorem t_r08_Same : cFn Tryd.prog takes Tryd.f13 = some a_r08_Same := by kernel_rfl
theorem n_r08_Same : (Tryd.f13.name == "runtime.NumGoroutine") = false := by kernel_rfl
def c_r08_Text_l1b : ACode :=
  .seq (.seq (.region false [⟨(some 28), .mv (.tmp 6), none⟩,
      ⟨(some 29), .mv (.tmp 0), none⟩,
      ⟨(some 30), .mv (.tmp 7), none⟩,
      ⟨(some 31), .ia (.slice 4) (.tmp 29) (.tmp 30), none⟩,
      ⟨(some 32), .fa 3 (.tmp 31), none⟩,
      ⟨(some 33), .ldc (.tmp 32), none⟩,
      ⟨(some 34), .bin .lss .prim (.tmp 28) (.tmp 33), none⟩])
   (.cond (.tmp 34) (.skip)
    (.exit 2)))
  (.block 3 (.seq (.region false [⟨(some 35), .mv (.tmp 5), none⟩,
       ⟨(some 36), .bin .add .prim (.tmp 35) (.const (.str [10])), none⟩,
       ⟨(some 5), .take 36, none⟩])
    (.region false [⟨(some 37), .mv (.tmp 6), none⟩,
       ⟨(some 38), .bin .add .prim (.tmp 37) (.const (.int .i64 1)), none⟩,
       ⟨(some 6), .take 38, none⟩])))
def c_r08_Text_l1 : ACode := .loop c_r08_Text_l1b
def c_r08_Text_j4 : ACode :=
  .seq (.region false [⟨(some 90), .mv (.tmp 5), none⟩,
     ⟨(some 91), .mv (.tmp 8), none⟩,
     ⟨(some 92), .bin .add .prim (.tmp 90) (.tmp 91), none⟩,
     ⟨(some 5), .take 92, none⟩])
  (.seq (.region false [⟨(some 93), .mv (.tmp 5), none⟩,
      ⟨(some 94), .len .str (.tmp 93), none⟩,
      ⟨(some 95), .bin .gtr .prim (.tmp 94) (.const (.int .i64 20000)), none⟩])
   (.cond (.tmp 95) (.seq (.region false [⟨(some 2), .mv (.const (.str [])), none⟩,
        ⟨(some 3), .mv (.const (.int .i64 6)), none⟩])
     (.ret))
    (.skip)))
def c_r08_Text_j3 : ACode :=
  .seq (.seq (.region true [⟨(some 56), .mv (.tmp 7), none⟩,
      ⟨(some 57), .bin .gtr .prim (.tmp 56) (.const (.int .i64 0)), none⟩,
      ⟨(some 58), .mv (.tmp 57), none⟩,
      ⟨(some 59), .mv (.tmp 0), (some (58, true))⟩,
      ⟨(some 60), .mv (.tmp 7), (some (58, true))⟩,
      ⟨(some 61), .ia (.slice 4) (.tmp 59) (.tmp 60), (some (58, true))⟩,
      ⟨(some 62), .fa 0 (.tmp 61), (some (58, true))⟩,
      ⟨(some 63), .ldc (.tmp 62), (some (58, true))⟩,
      ⟨(some 64), .bin .neq .prim (.tmp 63) (.const (.int .i64 4)), (some (58, true))⟩,
      ⟨(some 65), .pick (.tmp 58) (.tmp 64) (.const (.bool false)), none⟩,
      ⟨(some 66), .mv (.tmp 65), none⟩,
      ⟨(some 67), .mv (.tmp 0), (some (66, true))⟩,
      ⟨(some 68), .mv (.tmp 7), (some (66, true))⟩,
      ⟨(some 69), .ia (.slice 4) (.tmp 67) (.tmp 68), (some (66, true))⟩,
      ⟨(some 70), .fa 0 (.tmp 69), (some (66, true))⟩,
      ⟨(some 71), .ldc (.tmp 70), (some (66, true))⟩,
      ⟨(some 72), .bin .neq .prim (.tmp 71) (.const (.int .i64 0)), (some (66, true))⟩,
      ⟨(some 73), .pick (.tmp 66) (.tmp 72) (.const (.bool false)), none⟩,
      ⟨(some 74), .mv (.tmp 73), none⟩,
      ⟨(some 75), .mv (.tmp 0), (some (74, true))⟩,
      ⟨(some 76), .mv (.tmp 7), (some (74, true))⟩,
      ⟨(some 77), .bin .sub .prim (.tmp 76) (.const (.int .i64 1)), (some (74, true))⟩,
      ⟨(some 78), .ia (.slice 4) (.tmp 75) (.tmp 77), (some (74, true))⟩,
      ⟨(some 79), .fa 3 (.tmp 78), (some (74, true))⟩,
      ⟨(some 80), .ldc (.tmp 79), (some (74, true))⟩,
      ⟨(some 81), .mv (.tmp 0), (some (74, true))⟩,
      ⟨(some 82), .mv (.tmp 7), (some (74, true))⟩,
      ⟨(some 83), .ia (.slice 4) (.tmp 81) (.tmp 82), (some (74, true))⟩,
      ⟨(some 84), .fa 3 (.tmp 83), (some (74, true))⟩,
      ⟨(some 85), .ldc (.tmp 84), (some (74, true))⟩,
      ⟨(some 86), .bin .eql .prim (.tmp 80) (.tmp 85), (some (74, true))⟩,
      ⟨(some 87), .pick (.tmp 74) (.tmp 86) (.const (.bool false)), none⟩])
   (.cond (.tmp 87) (.region false [⟨(some 88), .mv (.tmp 5), none⟩,
       ⟨(some 89), .bin .add .prim (.tmp 88) (.const (.str [32])), none⟩,
       ⟨(some 5), .take 89, none⟩])
    (.skip)))
  c_r08_Text_j4
def c_r08_Text_j2 : ACode :=
  .seq (.region false [⟨(some 39), .mv (.tmp 0), none⟩,
     ⟨(some 40), .mv (.tmp 7), none⟩,
     ⟨(some 41), .ia (.slice 4) (.tmp 39) (.tmp 40), none⟩,
     ⟨(some 42), .fa 1 (.tmp 41), none⟩,
     ⟨(some 43), .ldc (.tmp 42), none⟩,
     ⟨(some 8), .take 43, none⟩])
  (.seq (.seq (.region false [⟨(some 44), .mv (.tmp 0), none⟩,
       ⟨(some 45), .mv (.tmp 7), none⟩,
       ⟨(some 46), .ia (.slice 4) (.tmp 44) (.tmp 45), none⟩,
       ⟨(some 47), .fa 0 (.tmp 46), none⟩,
       ⟨(some 48), .ldc (.tmp 47), none⟩,
       ⟨(some 49), .bin .eql .prim (.tmp 48) (.const (.int .i64 2)), none⟩])
    (.cond (.tmp 49) (.region false [⟨(some 50), .mv (.tmp 0), none⟩,
        ⟨(some 51), .mv (.tmp 7), none⟩,
        ⟨(some 52), .ia (.slice 4) (.tmp 50) (.tmp 51), none⟩,
        ⟨(some 53), .fa 2 (.tmp 52), none⟩,
        ⟨(some 54), .ldc (.tmp 53), none⟩,
        ⟨(some 55), .call (.const (.fn 22 [] [])) [(.inr (.tmp 54))], none⟩,
        ⟨(some 8), .take 55, none⟩])
     (.skip)))
   c_r08_Text_j3)
def c_r08_Text_j5 : ACode :=
  .region false [⟨(some 26), .mv (.tmp 7), none⟩,
    ⟨(some 27), .bin .add .prim (.tmp 26) (.const (.int .i64 1)), none⟩,
    ⟨(some 7), .take 27, none⟩]
def c_r08_Text_l0b : ACode :=
  .seq (.seq (.region false [⟨(some 22), .mv (.tmp 7), none⟩,
      ⟨(some 23), .mv (.tmp 0), none⟩,
      ⟨(some 24), .len .slice (.tmp 23), none⟩,
      ⟨(some 25), .bin .lss .prim (.tmp 22) (.tmp 24), none⟩])
   (.cond (.tmp 25) (.skip)
    (.exit 0)))
  (.seq (.block 1 (.seq (.block 2 (c_r08_Text_l1))
     c_r08_Text_j2))
   c_r08_Text_j5)
def c_r08_Text_l0 : ACode := .loop c_r08_Text_l0b
def c_r08_Text_j6 : ACode :=
  .seq (.region false [⟨(some 96), .take 5, none⟩,
     ⟨(some 2), .take 96, none⟩,
     ⟨(some 3), .mv (.const (.int .i64 0)), none⟩])
  (.ret)
/-- simulator/simulatorref08.Text -/
def c_r08_Text : ACode :=
  .seq (.region false [⟨(some 2), .mv (.const (.str [])), none⟩,
     ⟨(some 3), .mv (.const (.int .i64 0)), none⟩])
  (.seq (.region false [⟨(some 9), .mv (.tmp 0), none⟩,
      ⟨(some 10), .call (.const (.fn 18 [] [])) [(.inr (.tmp 9))], none⟩,
      ⟨(some 4), .take 10, none⟩])
   (.seq (.seq (.region false [⟨(some 11), .mv (.tmp 4), none⟩,
        ⟨(some 12), .bin .neq .prim (.tmp 11) (.const (.int .i64 0)), none⟩])
     (.cond (.tmp 12) (.seq (.region false [⟨(some 13), .take 4, none⟩,
          ⟨(some 2), .mv (.const (.str [])), none⟩,
          ⟨(some 3), .take 13, none⟩])
       (.ret))
      (.skip)))
    (.seq (.seq (.region false [⟨(some 14), .mv (.tmp 0), none⟩,
         ⟨(some 15), .mv (.tmp 0), none⟩,
         ⟨(some 16), .len .slice (.tmp 15), none⟩,
         ⟨(some 17), .bin .sub .prim (.tmp 16) (.const (.int .i64 1)), none⟩,
         ⟨(some 18), .ia (.slice 4) (.tmp 14) (.tmp 17), none⟩,
         ⟨(some 19), .fa 3 (.tmp 18), none⟩,
         ⟨(some 20), .ldc (.tmp 19), none⟩,
         ⟨(some 21), .bin .gtr .prim (.tmp 20) (.const (.int .i64 20001)), none⟩])
      (.cond (.tmp 21) (.seq (.region false [⟨(some 2), .mv (.const (.str [])), none⟩,
           ⟨(some 3), .mv (.const (.int .i64 6)), none⟩])
        (.ret))
       (.skip)))
     (.seq (.region false [⟨(some 5), .mv (.const (.str [])), none⟩,
         ⟨(some 6), .mv (.const (.int .i64 1)), none⟩])
      (.seq (.seq (.region false [⟨(some 7), .mv (.const (.int .i64 0)), none⟩])
        (.block 0 (c_r08_Text_l0)))
       c_r08_Text_j6)))))
def a_r08_Text : AFn := ⟨97, [.tmp 2, .tmp 3], c_r08_Text, false⟩
def p_r08_Text : List Nat := [59, 60, 61, 62, 63, 64, 67, 68, 69, 70, 71, 72, 75, 76, 77, 78, 79, 80, 81, 82, 83, 84, 85, 86]
theorem t_r08_Text : cFn Tryd.prog takes Tryd.f17 = some a_r08_Text := by kernel_rfl
theorem n_r08_Text : (Tryd.f17.name == "runtime.NumGoroutine") = false := by kernel_rfl
def c_r08_Check_l0b : ACode :=
  .seq (.seq (.region false [⟨(some 7), .mv (.tmp 4), none⟩,
      ⟨(some 8), .mv (.tmp 0), none⟩,
      ⟨(some 9), .len .slice (.tmp 8), none⟩,
      ⟨(some 10), .bin .lss .prim (.tmp 7) (.tmp 9), none⟩])
   (.cond (.tmp 10) (.skip)
    (.exit 0)))
  (.seq (.block 1 (.seq (.region false [⟨(some 13), .mv (.tmp 0), none⟩,
        ⟨(some 14), .mv (.tmp 4), none⟩,
        ⟨(some 15), .ia (.slice 4) (.tmp 13) (.tmp 14), none⟩,
        ⟨(some 16), .lda 4 (.tmp 15), none⟩,
        ⟨(some 5), .mk 31 [(.int .i64 0), (.str []), (.int .i64 0), (.int .i64 0)], none⟩,
        ⟨none, .st 4 (.tmp 5) (.tmp 16), none⟩])
     (.seq (.seq (.region false [⟨(some 17), .fa 0 (.tmp 5), none⟩,
          ⟨(some 18), .ldc (.tmp 17), none⟩,
          ⟨(some 19), .bin .lss .prim (.tmp 18) (.const (.int .i64 0)), none⟩,
          ⟨(some 20), .mv (.tmp 19), none⟩,
          ⟨(some 21), .fa 0 (.tmp 5), (some (20, false))⟩,
          ⟨(some 22), .ldc (.tmp 21), (some (20, false))⟩,
          ⟨(some 23), .bin .gtr .prim (.tmp 22) (.const (.int .i64 4)), (some (20, false))⟩,
          ⟨(some 24), .pick (.tmp 20) (.const (.bool true)) (.tmp 23), none⟩])
       (.cond (.tmp 24) (.seq (.region false [⟨(some 2), .mv (.const (.int .i64 1)), none⟩])
         (.ret))
        (.skip)))
      (.seq (.seq (.region false [⟨(some 25), .lda 4 (.tmp 5), none⟩,
           ⟨(some 26), .call (.const (.fn 36 [] [])) [(.inr (.tmp 25))], none⟩,
           ⟨(some 27), .un .not (.tmp 26), none⟩,
           ⟨(some 28), .mv (.tmp 27), none⟩,
           ⟨(some 29), .fa 0 (.tmp 5), (some (28, false))⟩,
           ⟨(some 30), .ldc (.tmp 29), (some (28, false))⟩,
           ⟨(some 31), .bin .eql .prim (.tmp 30) (.const (.int .i64 4)), (some (28, false))⟩,
           ⟨(some 32), .mv (.tmp 31), (some (28, false))⟩,
           ⟨(some 33), .fa 0 (.tmp 3), (some (32, true))⟩,
           ⟨(some 34), .ldc (.tmp 33), (some (32, true))⟩,
           ⟨(some 35), .bin .eql .prim (.tmp 34) (.const (.int .i64 4)), (some (32, true))⟩,
           ⟨(some 36), .pick (.tmp 32) (.tmp 35) (.const (.bool false)), (some (28, false))⟩,
           ⟨(some 37), .pick (.tmp 28) (.const (.bool true)) (.tmp 36), none⟩])
        (.cond (.tmp 37) (.seq (.region false [⟨(some 2), .mv (.const (.int .i64 8)), none⟩])
          (.ret))
         (.skip)))
       (.seq (.seq (.region false [⟨(some 38), .fa 0 (.tmp 5), none⟩,
            ⟨(some 39), .ldc (.tmp 38), none⟩,
            ⟨(some 40), .bin .eql .prim (.tmp 39) (.const (.int .i64 0)), none⟩,
            ⟨(some 41), .mv (.tmp 40), none⟩,
            ⟨(some 42), .mv (.tmp 4), (some (41, true))⟩,
            ⟨(some 43), .mv (.tmp 0), (some (41, true))⟩,
            ⟨(some 44), .len .slice (.tmp 43), (some (41, true))⟩,
            ⟨(some 45), .bin .sub .prim (.tmp 44) (.const (.int .i64 1)), (some (41, true))⟩,
            ⟨(some 46), .bin .neq .prim (.tmp 42) (.tmp 45), (some (41, true))⟩,
            ⟨(some 47), .mv (.tmp 46), (some (41, true))⟩,
            ⟨(some 48), .fa 0 (.tmp 3), (some (47, false))⟩,
            ⟨(some 49), .ldc (.tmp 48), (some (47, false))⟩,
            ⟨(some 50), .bin .neq .prim (.tmp 49) (.const (.int .i64 4)), (some (47, false))⟩,
            ⟨(some 51), .pick (.tmp 47) (.const (.bool true)) (.tmp 50), (some (41, true))⟩,
            ⟨(some 52), .pick (.tmp 41) (.tmp 51) (.const (.bool false)), none⟩])
         (.cond (.tmp 52) (.seq (.region false [⟨(some 2), .mv (.const (.int .i64 8)), none⟩])
           (.ret))
          (.skip)))
        (.seq (.seq (.region false [⟨(some 53), .fa 3 (.tmp 5), none⟩,
             ⟨(some 54), .ldc (.tmp 53), none⟩,
             ⟨(some 55), .bin .lss .prim (.tmp 54) (.const (.int .i64 1)), none⟩,
             ⟨(some 56), .mv (.tmp 55), none⟩,
             ⟨(some 57), .fa 0 (.tmp 3), (some (56, false))⟩,
             ⟨(some 58), .ldc (.tmp 57), (some (56, false))⟩,
             ⟨(some 59), .bin .neq .prim (.tmp 58) (.const (.int .i64 4)), (some (56, false))⟩,
             ⟨(some 60), .mv (.tmp 59), (some (56, false))⟩,
             ⟨(some 61), .fa 3 (.tmp 5), (some (60, true))⟩,
             ⟨(some 62), .ldc (.tmp 61), (some (60, true))⟩,
             ⟨(some 63), .fa 3 (.tmp 3), (some (60, true))⟩,
             ⟨(some 64), .ldc (.tmp 63), (some (60, true))⟩,
             ⟨(some 65), .bin .neq .prim (.tmp 62) (.tmp 64), (some (60, true))⟩,
             ⟨(some 66), .pick (.tmp 60) (.tmp 65) (.const (.bool false)), (some (56, false))⟩,
             ⟨(some 67), .pick (.tmp 56) (.const (.bool true)) (.tmp 66), none⟩,
             ⟨(some 68), .mv (.tmp 67), none⟩,
             ⟨(some 69), .fa 3 (.tmp 5), (some (68, false))⟩,
             ⟨(some 70), .ldc (.tmp 69), (some (68, false))⟩,
             ⟨(some 71), .fa 3 (.tmp 3), (some (68, false))⟩,
             ⟨(some 72), .ldc (.tmp 71), (some (68, false))⟩,
             ⟨(some 73), .bin .lss .prim (.tmp 70) (.tmp 72), (some (68, false))⟩,
             ⟨(some 74), .pick (.tmp 68) (.const (.bool true)) (.tmp 73), none⟩,
             ⟨(some 75), .mv (.tmp 74), none⟩,
             ⟨(some 76), .fa 0 (.tmp 3), (some (75, false))⟩,
             ⟨(some 77), .ldc (.tmp 76), (some (75, false))⟩,
             ⟨(some 78), .bin .eql .prim (.tmp 77) (.const (.int .i64 4)), (some (75, false))⟩,
             ⟨(some 79), .mv (.tmp 78), (some (75, false))⟩,
             ⟨(some 80), .fa 0 (.tmp 5), (some (79, true))⟩,
             ⟨(some 81), .ldc (.tmp 80), (some (79, true))⟩,
             ⟨(some 82), .bin .neq .prim (.tmp 81) (.const (.int .i64 0)), (some (79, true))⟩,
             ⟨(some 83), .pick (.tmp 79) (.tmp 82) (.const (.bool false)), (some (75, false))⟩,
             ⟨(some 84), .mv (.tmp 83), (some (75, false))⟩,
             ⟨(some 85), .fa 3 (.tmp 5), (some (84, true))⟩,
             ⟨(some 86), .ldc (.tmp 85), (some (84, true))⟩,
             ⟨(some 87), .fa 3 (.tmp 3), (some (84, true))⟩,
             ⟨(some 88), .ldc (.tmp 87), (some (84, true))⟩,
             ⟨(some 89), .bin .eql .prim (.tmp 86) (.tmp 88), (some (84, true))⟩,
             ⟨(some 90), .pick (.tmp 84) (.tmp 89) (.const (.bool false)), (some (75, false))⟩,
             ⟨(some 91), .pick (.tmp 75) (.const (.bool true)) (.tmp 90), none⟩])
          (.cond (.tmp 91) (.seq (.region false [⟨(some 2), .mv (.const (.int .i64 12)), none⟩])
            (.ret))
           (.skip)))
         (.region false [⟨(some 92), .lda 4 (.tmp 5), none⟩,
            ⟨none, .st 4 (.tmp 3) (.tmp 92), none⟩])))))))
   (.region false [⟨(some 11), .mv (.tmp 4), none⟩,
      ⟨(some 12), .bin .add .prim (.tmp 11) (.const (.int .i64 1)), none⟩,
      ⟨(some 4), .take 12, none⟩]))
def c_r08_Check_l0 : ACode := .loop c_r08_Check_l0b
def c_r08_Check_j1 : ACode :=
  .seq (.seq (.region false [⟨(some 93), .fa 0 (.tmp 3), none⟩,
      ⟨(some 94), .ldc (.tmp 93), none⟩,
      ⟨(some 95), .bin .neq .prim (.tmp 94) (.const (.int .i64 0)), none⟩])
   (.cond (.tmp 95) (.seq (.region false [⟨(some 2), .mv (.const (.int .i64 8)), none⟩])
     (.ret))
    (.skip)))
  (.seq (.region false [⟨(some 2), .mv (.const (.int .i64 0)), none⟩])
   (.ret))
/-- simulator/simulatorref08.Check -/
def c_r08_Check : ACode :=
  .seq (.region false [⟨(some 2), .mv (.const (.int .i64 0)), none⟩])
  (.seq (.region false [⟨(some 6), .build [(.int .i64 0), (.str []), (.int .i64 0), (.int .i64 0)] [(0, 1, (.const (.int .i64 4))), (3, 1, (.const (.int .i64 0)))], none⟩,
      ⟨(some 3), .mk 31 [(.int .i64 0), (.str []), (.int .i64 0), (.int .i64 0)], none⟩,
      ⟨none, .st 4 (.tmp 3) (.tmp 6), none⟩])
   (.seq (.seq (.region false [⟨(some 4), .mv (.const (.int .i64 0)), none⟩])
     (.block 0 (c_r08_Check_l0)))
    c_r08_Check_j1))
def a_r08_Check : AFn := ⟨96, [.tmp 2], c_r08_Check, false⟩
def p_r08_Check : List Nat := [21, 22, 23, 29, 30, 31, 32, 33, 34, 35, 36, 42, 43, 44, 45, 46, 47, 48, 49, 50, 51, 57, 58, 59, 60, 61, 62, 63, 64, 65, 66, 69, 70, 71, 72, 73, 76, 77, 78, 79, 80, 81, 82, 83, 84, 85, 86, 87, 88, 89, 90]
theorem t_r08_Check : cFn Tryd.prog takes Tryd.f18 = some a_r08_Check := by kernel_rfl
theorem n_r08_Check : (Tryd.f18.name == "runtime.NumGoroutine") = false := by kernel_rfl
def c_r08_Lines_l0b : ACode :=
  .seq (.seq (.region false [⟨(some 5), .mv (.tmp 4), none⟩,
      ⟨(some 6), .mv (.tmp 0), none⟩,
      ⟨(some 7), .len .slice (.tmp 6), none⟩,
      ⟨(some 8), .bin .lss .prim (.tmp 5) (.tmp 7), none⟩])
   (.cond (.tmp 8) (.skip)
    (.exit 0)))
  (.seq (.block 1 (.seq (.region false [⟨(some 11), .mv (.tmp 0), none⟩,
        ⟨(some 12), .mv (.tmp 4), none⟩,
        ⟨(some 13), .ia (.slice 4) (.tmp 11) (.tmp 12), none⟩,
        ⟨(some 14), .fa 0 (.tmp 13), none⟩,
        ⟨(some 15), .ldc (.tmp 14), none⟩,
        ⟨(some 16), .bin .eql .prim (.tmp 15) (.const (.int .i64 4)), none⟩])
     (.cond (.tmp 16) (.region false [⟨(some 17), .mv (.tmp 3), none⟩,
         ⟨(some 18), .bin .add .prim (.tmp 17) (.const (.int .i64 1)), none⟩,
         ⟨(some 3), .take 18, none⟩])
      (.skip))))
   (.region false [⟨(some 9), .mv (.tmp 4), none⟩,
      ⟨(some 10), .bin .add .prim (.tmp 9) (.const (.int .i64 1)), none⟩,
      ⟨(some 4), .take 10, none⟩]))
def c_r08_Lines_l0 : ACode := .loop c_r08_Lines_l0b
def c_r08_Lines_j1 : ACode :=
  .seq (.seq (.region false [⟨(some 19), .mv (.tmp 0), none⟩,
      ⟨(some 20), .call (.const (.fn 18 [] [])) [(.inr (.tmp 19))], none⟩,
      ⟨(some 21), .bin .neq .prim (.tmp 20) (.const (.int .i64 0)), none⟩])
   (.cond (.tmp 21) (.seq (.region false [⟨(some 2), .mv (.const (.int .i64 0)), none⟩])
     (.ret))
    (.skip)))
  (.seq (.region false [⟨(some 22), .take 3, none⟩,
      ⟨(some 2), .take 22, none⟩])
   (.ret))
/-- simulator/simulatorref08.Lines -/
def c_r08_Lines : ACode :=
  .seq (.region false [⟨(some 2), .mv (.const (.int .i64 0)), none⟩])
  (.seq (.region false [⟨(some 3), .mv (.const (.int .i64 0)), none⟩])
   (.seq (.seq (.region false [⟨(some 4), .mv (.const (.int .i64 0)), none⟩])
     (.block 0 (c_r08_Lines_l0)))
    c_r08_Lines_j1))
def a_r08_Lines : AFn := ⟨23, [.tmp 2], c_r08_Lines, false⟩
def p_r08_Lines : List Nat := []
theorem t_r08_Lines : cFn Tryd.prog takes Tryd.f19 = some a_r08_Lines := by kernel_rfl
theorem n_r08_Lines : (Tryd.f19.name == "runtime.NumGoroutine") = false := by kernel_rfl
def c_r08_Number_l0b : ACode :=
  .seq (.seq (.region false [⟨(some 24), .mv (.tmp 5), none⟩,
      ⟨(some 25), .mv (.tmp 0), none⟩,
      ⟨(some 26), .len .str (.tmp 25), none⟩,
      ⟨(some 27), .bin .lss .prim (.tmp 24) (.tmp 26), none⟩])
   (.cond (.tmp 27) (.skip)
    (.exit 0)))
  (.seq (.block 1 (.seq (.seq (.region false [⟨(some 30), .mv (.tmp 0), none⟩,
         ⟨(some 31), .mv (.tmp 5), none⟩,
         ⟨(some 32), .idx (.tmp 30) (.tmp 31), none⟩,
         ⟨(some 33), .call (.const (.fn 38 [] [])) [(.inr (.tmp 32))], none⟩,
         ⟨(some 34), .un .not (.tmp 33), none⟩])
      (.cond (.tmp 34) (.seq (.region false [⟨(some 2), .mv (.const (.int .i64 0)), none⟩,
           ⟨(some 3), .mv (.const (.bool false)), none⟩])
        (.ret))
       (.skip)))
     (.region false [⟨(some 35), .mv (.tmp 4), none⟩,
        ⟨(some 36), .bin .mul .prim (.const (.int .i64 10)) (.tmp 35), none⟩,
        ⟨(some 37), .mv (.tmp 0), none⟩,
        ⟨(some 38), .mv (.tmp 5), none⟩,
        ⟨(some 39), .idx (.tmp 37) (.tmp 38), none⟩,
        ⟨(some 40), .bin .sub .prim (.tmp 39) (.const (.int .u8 48)), none⟩,
        ⟨(some 41), .conv (.int .i64) (.tmp 40), none⟩,
        ⟨(some 42), .bin .add .prim (.tmp 36) (.tmp 41), none⟩,
        ⟨(some 4), .take 42, none⟩])))
   (.region false [⟨(some 28), .mv (.tmp 5), none⟩,
      ⟨(some 29), .bin .add .prim (.tmp 28) (.const (.int .i64 1)), none⟩,
      ⟨(some 5), .take 29, none⟩]))
def c_r08_Number_l0 : ACode := .loop c_r08_Number_l0b
def c_r08_Number_j1 : ACode :=
  .seq (.seq (.region false [⟨(some 43), .mv (.tmp 4), none⟩,
      ⟨(some 44), .bin .gtr .prim (.tmp 43) (.const (.int .i64 1000000000000)), none⟩])
   (.cond (.tmp 44) (.seq (.region false [⟨(some 2), .mv (.const (.int .i64 0)), none⟩,
        ⟨(some 3), .mv (.const (.bool false)), none⟩])
     (.ret))
    (.skip)))
  (.seq (.region false [⟨(some 45), .take 4, none⟩,
      ⟨(some 2), .take 45, none⟩,
      ⟨(some 3), .mv (.const (.bool true)), none⟩])
   (.ret))
/-- simulator/simulatorref08.Number -/
def c_r08_Number : ACode :=
  .seq (.region false [⟨(some 2), .mv (.const (.int .i64 0)), none⟩,
     ⟨(some 3), .mv (.const (.bool false)), none⟩])
  (.seq (.seq (.region false [⟨(some 6), .mv (.tmp 0), none⟩,
       ⟨(some 7), .len .str (.tmp 6), none⟩,
       ⟨(some 8), .bin .eql .prim (.tmp 7) (.const (.int .i64 0)), none⟩,
       ⟨(some 9), .mv (.tmp 8), none⟩,
       ⟨(some 10), .mv (.tmp 0), (some (9, false))⟩,
       ⟨(some 11), .len .str (.tmp 10), (some (9, false))⟩,
       ⟨(some 12), .bin .gtr .prim (.tmp 11) (.const (.int .i64 13)), (some (9, false))⟩,
       ⟨(some 13), .pick (.tmp 9) (.const (.bool true)) (.tmp 12), none⟩,
       ⟨(some 14), .mv (.tmp 13), none⟩,
       ⟨(some 15), .mv (.tmp 0), (some (14, false))⟩,
       ⟨(some 16), .len .str (.tmp 15), (some (14, false))⟩,
       ⟨(some 17), .bin .gtr .prim (.tmp 16) (.const (.int .i64 1)), (some (14, false))⟩,
       ⟨(some 18), .mv (.tmp 17), (some (14, false))⟩,
       ⟨(some 19), .mv (.tmp 0), (some (18, true))⟩,
       ⟨(some 20), .idx (.tmp 19) (.const (.int .i64 0)), (some (18, true))⟩,
       ⟨(some 21), .bin .eql .prim (.tmp 20) (.const (.int .u8 48)), (some (18, true))⟩,
       ⟨(some 22), .pick (.tmp 18) (.tmp 21) (.const (.bool false)), (some (14, false))⟩,
       ⟨(some 23), .pick (.tmp 14) (.const (.bool true)) (.tmp 22), none⟩])
    (.cond (.tmp 23) (.seq (.region false [⟨(some 2), .mv (.const (.int .i64 0)), none⟩,
         ⟨(some 3), .mv (.const (.bool false)), none⟩])
      (.ret))
     (.skip)))
   (.seq (.region false [⟨(some 4), .mv (.const (.int .i64 0)), none⟩])
    (.seq (.seq (.region false [⟨(some 5), .mv (.const (.int .i64 0)), none⟩])
      (.block 0 (c_r08_Number_l0)))
     c_r08_Number_j1)))
def a_r08_Number : AFn := ⟨46, [.tmp 2, .tmp 3], c_r08_Number, false⟩
def p_r08_Number : List Nat := [10, 11, 12, 15, 16, 17, 18, 19, 20, 21, 22]
theorem t_r08_Number : cFn Tryd.prog takes Tryd.f21 = some a_r08_Number := by kernel_rfl
theorem n_r08_Number : (Tryd.f21.name == "runtime.NumGoroutine") = false := by kernel_rfl
def c_r08_longest_j1 : ACode :=
  .seq (.region false [⟨(some 28), .mv (.tmp 4), none⟩,
     ⟨(some 29), .mv (.tmp 3), none⟩,
     ⟨(some 30), .bin .gtr .prim (.tmp 28) (.tmp 29), none⟩,
     ⟨(some 31), .mv (.tmp 30), none⟩,
     ⟨(some 32), .mv (.tmp 4), (some (31, true))⟩,
     ⟨(some 33), .bin .gtr .prim (.tmp 32) (.const (.int .i64 2)), (some (31, true))⟩,
     ⟨(some 34), .pick (.tmp 31) (.tmp 33) (.const (.bool false)), none⟩])
  (.cond (.tmp 34) (.seq (.region false [⟨(some 35), .take 3, none⟩,
       ⟨(some 2), .take 35, none⟩])
    (.ret))
   (.skip))
def c_r08_longest_j2 : ACode :=
  .region false [⟨(some 9), .mv (.tmp 4), none⟩,
    ⟨(some 10), .bin .add .prim (.tmp 9) (.const (.int .i64 1)), none⟩,
    ⟨(some 4), .take 10, none⟩]
def c_r08_longest_l0b : ACode :=
  .seq (.seq (.region false [⟨(some 5), .mv (.tmp 4), none⟩,
      ⟨(some 6), .mv (.tmp 0), none⟩,
      ⟨(some 7), .len .str (.tmp 6), none⟩,
      ⟨(some 8), .bin .leq .prim (.tmp 5) (.tmp 7), none⟩])
   (.cond (.tmp 8) (.skip)
    (.exit 0)))
  (.seq (.block 1 (.seq (.seq (.region false [⟨(some 11), .mv (.tmp 0), none⟩,
         ⟨(some 12), .mv (.tmp 4), none⟩,
         ⟨(some 13), .slice .str (.tmp 11) none (some (.tmp 12)), none⟩,
         ⟨(some 14), .call (.const (.fn 26 [] [])) [(.inr (.tmp 13))], none⟩,
         ⟨(some 15), .mv (.tmp 14), none⟩,
         ⟨(some 16), .mv (.tmp 0), (some (15, false))⟩,
         ⟨(some 17), .mv (.tmp 4), (some (15, false))⟩,
         ⟨(some 18), .slice .str (.tmp 16) none (some (.tmp 17)), (some (15, false))⟩,
         ⟨(some 19), .call (.const (.fn 27 [] [])) [(.inr (.tmp 18))], (some (15, false))⟩,
         ⟨(some 20), .pick (.tmp 15) (.const (.bool true)) (.tmp 19), none⟩,
         ⟨(some 21), .mv (.tmp 20), none⟩,
         ⟨(some 22), .mv (.tmp 0), (some (21, false))⟩,
         ⟨(some 23), .mv (.tmp 4), (some (21, false))⟩,
         ⟨(some 24), .slice .str (.tmp 22) none (some (.tmp 23)), (some (21, false))⟩,
         ⟨(some 25), .call (.const (.fn 44 [] [])) [(.inr (.tmp 24))], (some (21, false))⟩,
         ⟨(some 26), .pick (.tmp 21) (.const (.bool true)) (.tmp 25), none⟩])
      (.cond (.tmp 26) (.region false [⟨(some 27), .mv (.tmp 4), none⟩,
          ⟨(some 3), .take 27, none⟩])
       (.skip)))
     c_r08_longest_j1))
   c_r08_longest_j2)
def c_r08_longest_l0 : ACode := .loop c_r08_longest_l0b
def c_r08_longest_j3 : ACode :=
  .seq (.region false [⟨(some 36), .take 3, none⟩,
     ⟨(some 2), .take 36, none⟩])
  (.ret)
/-- simulator/simulatorref08.longest -/
def c_r08_longest : ACode :=
  .seq (.region false [⟨(some 2), .mv (.const (.int .i64 0)), none⟩])
  (.seq (.region false [⟨(some 3), .mv (.const (.int .i64 0)), none⟩])
   (.seq (.seq (.region false [⟨(some 4), .mv (.const (.int .i64 1)), none⟩])
     (.block 0 (c_r08_longest_l0)))
    c_r08_longest_j3))
def a_r08_longest : AFn := ⟨37, [.tmp 2], c_r08_longest, false⟩
def p_r08_longest : List Nat := [16, 17, 18, 19, 22, 23, 24, 25, 32, 33]
theorem t_r08_longest : cFn Tryd.prog takes Tryd.f25 = some a_r08_longest := by kernel_rfl
theorem n_r08_longest : (Tryd.f25.name == "runtime.NumGoroutine") = false := by kernel_rfl
def c_r08_Word_l0b : ACode :=
  .seq (.seq (.region false [⟨(some 13), .mv (.tmp 3), none⟩,
      ⟨(some 14), .mv (.tmp 0), none⟩,
      ⟨(some 15), .len .str (.tmp 14), none⟩,
      ⟨(some 16), .bin .lss .prim (.tmp 13) (.tmp 15), none⟩])
   (.cond (.tmp 16) (.skip)
    (.exit 0)))
  (.seq (.block 1 (.seq (.region false [⟨(some 19), .mv (.tmp 0), none⟩,
        ⟨(some 20), .mv (.tmp 3), none⟩,
        ⟨(some 21), .idx (.tmp 19) (.tmp 20), none⟩,
        ⟨(some 22), .call (.const (.fn 45 [] [])) [(.inr (.tmp 21))], none⟩,
        ⟨(some 23), .un .not (.tmp 22), none⟩,
        ⟨(some 24), .mv (.tmp 23), none⟩,
        ⟨(some 25), .mv (.tmp 0), (some (24, true))⟩,
        ⟨(some 26), .mv (.tmp 3), (some (24, true))⟩,
        ⟨(some 27), .idx (.tmp 25) (.tmp 26), (some (24, true))⟩,
        ⟨(some 28), .call (.const (.fn 38 [] [])) [(.inr (.tmp 27))], (some (24, true))⟩,
        ⟨(some 29), .un .not (.tmp 28), (some (24, true))⟩,
        ⟨(some 30), .pick (.tmp 24) (.tmp 29) (.const (.bool false)), none⟩,
        ⟨(some 31), .mv (.tmp 30), none⟩,
        ⟨(some 32), .mv (.tmp 0), (some (31, true))⟩,
        ⟨(some 33), .mv (.tmp 3), (some (31, true))⟩,
        ⟨(some 34), .idx (.tmp 32) (.tmp 33), (some (31, true))⟩,
        ⟨(some 35), .bin .neq .prim (.tmp 34) (.const (.int .u8 95)), (some (31, true))⟩,
        ⟨(some 36), .pick (.tmp 31) (.tmp 35) (.const (.bool false)), none⟩])
     (.cond (.tmp 36) (.seq (.region false [⟨(some 2), .mv (.const (.bool false)), none⟩])
       (.ret))
      (.skip))))
   (.region false [⟨(some 17), .mv (.tmp 3), none⟩,
      ⟨(some 18), .bin .add .prim (.tmp 17) (.const (.int .i64 1)), none⟩,
      ⟨(some 3), .take 18, none⟩]))
def c_r08_Word_l0 : ACode := .loop c_r08_Word_l0b
def c_r08_Word_j1 : ACode :=
  .seq (.region false [⟨(some 2), .mv (.const (.bool true)), none⟩])
  (.ret)
/-- simulator/simulatorref08.Word -/
def c_r08_Word : ACode :=
  .seq (.region false [⟨(some 2), .mv (.const (.bool false)), none⟩])
  (.seq (.seq (.region false [⟨(some 4), .mv (.tmp 0), none⟩,
       ⟨(some 5), .len .str (.tmp 4), none⟩,
       ⟨(some 6), .bin .eql .prim (.tmp 5) (.const (.int .i64 0)), none⟩,
       ⟨(some 7), .mv (.tmp 6), none⟩,
       ⟨(some 8), .mv (.tmp 0), (some (7, false))⟩,
       ⟨(some 9), .idx (.tmp 8) (.const (.int .i64 0)), (some (7, false))⟩,
       ⟨(some 10), .call (.const (.fn 45 [] [])) [(.inr (.tmp 9))], (some (7, false))⟩,
       ⟨(some 11), .un .not (.tmp 10), (some (7, false))⟩,
       ⟨(some 12), .pick (.tmp 7) (.const (.bool true)) (.tmp 11), none⟩])
    (.cond (.tmp 12) (.seq (.region false [⟨(some 2), .mv (.const (.bool false)), none⟩])
      (.ret))
     (.skip)))
   (.seq (.seq (.region false [⟨(some 3), .mv (.const (.int .i64 0)), none⟩])
     (.block 0 (c_r08_Word_l0)))
    c_r08_Word_j1))
def a_r08_Word : AFn := ⟨37, [.tmp 2], c_r08_Word, false⟩
def p_r08_Word : List Nat := [8, 9, 10, 11, 25, 26, 27, 28, 29, 32, 33, 34, 35]
theorem t_r08_Word : cFn Tryd.prog takes Tryd.f26 = some a_r08_Word := by kernel_rfl
theorem n_r08_Word : (Tryd.f26.name == "runtime.NumGoroutine") = false := by kernel_rfl
def c_r08_digits_l0b : ACode :=
  .seq (.seq (.region false [⟨(some 4), .mv (.tmp 3), none⟩,
      ⟨(some 5), .mv (.tmp 0), none⟩,
      ⟨(some 6), .len .str (.tmp 5), none⟩,
      ⟨(some 7), .bin .lss .prim (.tmp 4) (.tmp 6), none⟩])
   (.cond (.tmp 7) (.skip)
    (.exit 0)))
  (.seq (.block 1 (.seq (.region false [⟨(some 10), .mv (.tmp 0), none⟩,
        ⟨(some 11), .mv (.tmp 3), none⟩,
        ⟨(some 12), .idx (.tmp 10) (.tmp 11), none⟩,
        ⟨(some 13), .call (.const (.fn 38 [] [])) [(.inr (.tmp 12))], none⟩,
        ⟨(some 14), .un .not (.tmp 13), none⟩])
     (.cond (.tmp 14) (.seq (.region false [⟨(some 2), .mv (.const (.bool false)), none⟩])
       (.ret))
      (.skip))))
   (.region false [⟨(some 8), .mv (.tmp 3), none⟩,
      ⟨(some 9), .bin .add .prim (.tmp 8) (.const (.int .i64 1)), none⟩,
      ⟨(some 3), .take 9, none⟩]))
def c_r08_digits_l0 : ACode := .loop c_r08_digits_l0b
def c_r08_digits_j1 : ACode :=
  .seq (.region false [⟨(some 15), .mv (.tmp 0), none⟩,
     ⟨(some 16), .len .str (.tmp 15), none⟩,
     ⟨(some 17), .bin .gtr .prim (.tmp 16) (.const (.int .i64 0)), none⟩,
     ⟨(some 2), .take 17, none⟩])
  (.ret)
/-- simulator/simulatorref08.digits -/
def c_r08_digits : ACode :=
  .seq (.region false [⟨(some 2), .mv (.const (.bool false)), none⟩])
  (.seq (.seq (.region false [⟨(some 3), .mv (.const (.int .i64 0)), none⟩])
    (.block 0 (c_r08_digits_l0)))
   c_r08_digits_j1)
def a_r08_digits : AFn := ⟨18, [.tmp 2], c_r08_digits, false⟩
def p_r08_digits : List Nat := []
theorem t_r08_digits : cFn Tryd.prog takes Tryd.f27 = some a_r08_digits := by kernel_rfl
theorem n_r08_digits : (Tryd.f27.name == "runtime.NumGoroutine") = false := by kernel_rfl
/-- simulator/simulatorref08.formed -/
def c_r08_formed : ACode :=
  .seq (.region false [⟨(some 1), .box 31 4 (.tmp 0), none⟩,
     ⟨(some 2), .mv (.const (.bool false)), none⟩])
  (.seq (.seq (.region false [⟨(some 3), .fa 0 (.tmp 1), none⟩,
       ⟨(some 4), .ldc (.tmp 3), none⟩])
    (.block 0 (.seq (.region false [⟨(some 6), .bin .eql .prim (.tmp 4) (.const (.int .i64 1)), none⟩,
         ⟨(some 5), .take 6, none⟩])
      (.cond (.tmp 5) (.seq (.region false [⟨(some 7), .fa 1 (.tmp 1), none⟩,
           ⟨(some 8), .ldc (.tmp 7), none⟩,
           ⟨(some 9), .call (.const (.fn 26 [] [])) [(.inr (.tmp 8))], none⟩,
           ⟨(some 10), .mv (.tmp 9), none⟩,
           ⟨(some 11), .fa 2 (.tmp 1), (some (10, true))⟩,
           ⟨(some 12), .ldc (.tmp 11), (some (10, true))⟩,
           ⟨(some 13), .bin .eql .prim (.tmp 12) (.const (.int .i64 0)), (some (10, true))⟩,
           ⟨(some 14), .pick (.tmp 10) (.tmp 13) (.const (.bool false)), none⟩,
           ⟨(some 2), .take 14, none⟩])
        (.ret))
       (.seq (.region false [⟨(some 16), .bin .eql .prim (.tmp 4) (.const (.int .i64 2)), none⟩,
           ⟨(some 15), .take 16, none⟩])
        (.cond (.tmp 15) (.seq (.region false [⟨(some 17), .fa 1 (.tmp 1), none⟩,
             ⟨(some 18), .ldc (.tmp 17), none⟩,
             ⟨(some 19), .bin .eql .prim (.tmp 18) (.const (.str [])), none⟩,
             ⟨(some 20), .mv (.tmp 19), none⟩,
             ⟨(some 21), .fa 2 (.tmp 1), (some (20, true))⟩,
             ⟨(some 22), .ldc (.tmp 21), (some (20, true))⟩,
             ⟨(some 23), .bin .geq .prim (.tmp 22) (.const (.int .i64 0)), (some (20, true))⟩,
             ⟨(some 24), .pick (.tmp 20) (.tmp 23) (.const (.bool false)), none⟩,
             ⟨(some 25), .mv (.tmp 24), none⟩,
             ⟨(some 26), .fa 2 (.tmp 1), (some (25, true))⟩,
             ⟨(some 27), .ldc (.tmp 26), (some (25, true))⟩,
             ⟨(some 28), .bin .leq .prim (.tmp 27) (.const (.int .i64 1000000000000)), (some (25, true))⟩,
             ⟨(some 29), .pick (.tmp 25) (.tmp 28) (.const (.bool false)), none⟩,
             ⟨(some 2), .take 29, none⟩])
          (.ret))
         (.seq (.region false [⟨(some 31), .bin .eql .prim (.tmp 4) (.const (.int .i64 3)), none⟩,
             ⟨(some 30), .take 31, none⟩])
          (.cond (.tmp 30) (.seq (.region false [⟨(some 32), .fa 1 (.tmp 1), none⟩,
               ⟨(some 33), .ldc (.tmp 32), none⟩,
               ⟨(some 34), .call (.const (.fn 44 [] [])) [(.inr (.tmp 33))], none⟩,
               ⟨(some 35), .mv (.tmp 34), none⟩,
               ⟨(some 36), .fa 2 (.tmp 1), (some (35, true))⟩,
               ⟨(some 37), .ldc (.tmp 36), (some (35, true))⟩,
               ⟨(some 38), .bin .eql .prim (.tmp 37) (.const (.int .i64 0)), (some (35, true))⟩,
               ⟨(some 39), .pick (.tmp 35) (.tmp 38) (.const (.bool false)), none⟩,
               ⟨(some 2), .take 39, none⟩])
            (.ret))
           (.skip)))))))))
   (.seq (.region false [⟨(some 40), .fa 1 (.tmp 1), none⟩,
       ⟨(some 41), .ldc (.tmp 40), none⟩,
       ⟨(some 42), .bin .eql .prim (.tmp 41) (.const (.str [])), none⟩,
       ⟨(some 43), .mv (.tmp 42), none⟩,
       ⟨(some 44), .fa 2 (.tmp 1), (some (43, true))⟩,
       ⟨(some 45), .ldc (.tmp 44), (some (43, true))⟩,
       ⟨(some 46), .bin .eql .prim (.tmp 45) (.const (.int .i64 0)), (some (43, true))⟩,
       ⟨(some 47), .pick (.tmp 43) (.tmp 46) (.const (.bool false)), none⟩,
       ⟨(some 2), .take 47, none⟩])
    (.ret)))
def a_r08_formed : AFn := ⟨48, [.tmp 2], c_r08_formed, false⟩
def p_r08_formed : List Nat := [11, 12, 13, 21, 22, 23, 26, 27, 28, 36, 37, 38, 44, 45, 46]
theorem t_r08_formed : cFn Tryd.prog takes Tryd.f36 = some a_r08_formed := by kernel_rfl
theorem n_r08_formed : (Tryd.f36.name == "runtime.NumGoroutine") = false := by kernel_rfl
/-- simulator/simulatorref08.digit -/
def c_r08_digit : ACode :=
  .seq (.region false [⟨(some 2), .mv (.const (.bool false)), none⟩])
  (.seq (.region false [⟨(some 3), .mv (.tmp 0), none⟩,
      ⟨(some 4), .bin .geq .prim (.tmp 3) (.const (.int .u8 48)), none⟩,
      ⟨(some 5), .mv (.tmp 4), none⟩,
      ⟨(some 6), .mv (.tmp 0), (some (5, true))⟩,
      ⟨(some 7), .bin .leq .prim (.tmp 6) (.const (.int .u8 57)), (some (5, true))⟩,
      ⟨(some 8), .pick (.tmp 5) (.tmp 7) (.const (.bool false)), none⟩,
      ⟨(some 2), .take 8, none⟩])
   (.ret))
def a_r08_digit : AFn := ⟨9, [.tmp 2], c_r08_digit, false⟩
def p_r08_digit : List Nat := [6, 7]
theorem t_r08_digit : cFn Tryd.prog takes Tryd.f38 = some a_r08_digit := by kernel_rfl
theorem n_r08_digit : (Tryd.f38.name == "runtime.NumGoroutine") = false := by kernel_rfl
/-- simulator/simulatorref08.Sign -/
def c_r08_Sign : ACode :=
  .seq (.region false [⟨(some 2), .mv (.const (.bool false)), none⟩])
  (.seq (.seq (.region false [⟨(some 3), .mv (.tmp 0), none⟩])
    (.block 0 (.seq (.seq (.region false [⟨(some 5), .bin .eql .prim (.tmp 3) (.const (.str [43])), none⟩,
          ⟨(some 4), .take 5, none⟩])
       (.cond (.tmp 4) (.skip)
        (.seq (.region false [⟨(some 6), .bin .eql .prim (.tmp 3) (.const (.str [45])), none⟩,
            ⟨(some 4), .take 6, none⟩])
         (.cond (.tmp 4) (.skip)
          (.seq (.region false [⟨(some 7), .bin .eql .prim (.tmp 3) (.const (.str [42])), none⟩,
              ⟨(some 4), .take 7, none⟩])
           (.cond (.tmp 4) (.skip)
            (.seq (.region false [⟨(some 8), .bin .eql .prim (.tmp 3) (.const (.str [47])), none⟩,
                ⟨(some 4), .take 8, none⟩])
             (.cond (.tmp 4) (.skip)
              (.seq (.region false [⟨(some 9), .bin .eql .prim (.tmp 3) (.const (.str [37])), none⟩,
                  ⟨(some 4), .take 9, none⟩])
               (.cond (.tmp 4) (.skip)
                (.seq (.region false [⟨(some 10), .bin .eql .prim (.tmp 3) (.const (.str [61])), none⟩,
                    ⟨(some 4), .take 10, none⟩])
                 (.cond (.tmp 4) (.skip)
                  (.seq (.region false [⟨(some 11), .bin .eql .prim (.tmp 3) (.const (.str [33, 61])), none⟩,
                      ⟨(some 4), .take 11, none⟩])
                   (.cond (.tmp 4) (.skip)
                    (.seq (.region false [⟨(some 12), .bin .eql .prim (.tmp 3) (.const (.str [60])), none⟩,
                        ⟨(some 4), .take 12, none⟩])
                     (.cond (.tmp 4) (.skip)
                      (.seq (.region false [⟨(some 13), .bin .eql .prim (.tmp 3) (.const (.str [60, 61])), none⟩,
                          ⟨(some 4), .take 13, none⟩])
                       (.cond (.tmp 4) (.skip)
                        (.seq (.region false [⟨(some 14), .bin .eql .prim (.tmp 3) (.const (.str [62])), none⟩,
                            ⟨(some 4), .take 14, none⟩])
                         (.cond (.tmp 4) (.skip)
                          (.seq (.region false [⟨(some 15), .bin .eql .prim (.tmp 3) (.const (.str [62, 61])), none⟩,
                              ⟨(some 4), .take 15, none⟩])
                           (.cond (.tmp 4) (.skip)
                            (.seq (.region false [⟨(some 16), .bin .eql .prim (.tmp 3) (.const (.str [40])), none⟩,
                                ⟨(some 4), .take 16, none⟩])
                             (.cond (.tmp 4) (.skip)
                              (.seq (.region false [⟨(some 17), .bin .eql .prim (.tmp 3) (.const (.str [41])), none⟩,
                                  ⟨(some 4), .take 17, none⟩])
                               (.cond (.tmp 4) (.skip)
                                (.seq (.region false [⟨(some 18), .bin .eql .prim (.tmp 3) (.const (.str [44])), none⟩,
                                    ⟨(some 4), .take 18, none⟩])
                                 (.cond (.tmp 4) (.skip)
                                  (.seq (.region false [⟨(some 19), .bin .eql .prim (.tmp 3) (.const (.str [58])), none⟩,
                                      ⟨(some 4), .take 19, none⟩])
                                   (.cond (.tmp 4) (.skip)
                                    (.region false [⟨(some 20), .bin .eql .prim (.tmp 3) (.const (.str [46])), none⟩,
                                       ⟨(some 4), .take 20, none⟩])))))))))))))))))))))))))))))))
      (.cond (.tmp 4) (.seq (.region false [⟨(some 2), .mv (.const (.bool true)), none⟩])
        (.ret))
       (.skip)))))
   (.seq (.region false [⟨(some 2), .mv (.const (.bool false)), none⟩])
    (.ret)))
def a_r08_Sign : AFn := ⟨21, [.tmp 2], c_r08_Sign, false⟩
def p_r08_Sign : List Nat := []
theorem t_r08_Sign : cFn Tryd.prog takes Tryd.f44 = some a_r08_Sign := by kernel_rfl
theorem n_r08_Sign : (Tryd.f44.name == "runtime.NumGoroutine") = false := by kernel_rfl
/-- simulator/simulatorref08.letter -/
def c_r08_letter : ACode :=
  .seq (.region false [⟨(some 2), .mv (.const (.bool false)), none⟩])
  (.seq (.region false [⟨(some 3), .mv (.tmp 0), none⟩,
      ⟨(some 4), .bin .geq .prim (.tmp 3) (.const (.int .u8 97)), none⟩,
      ⟨(some 5), .mv (.tmp 4), none⟩,
      ⟨(some 6), .mv (.tmp 0), (some (5, true))⟩,
      ⟨(some 7), .bin .leq .prim (.tmp 6) (.const (.int .u8 122)), (some (5, true))⟩,
      ⟨(some 8), .pick (.tmp 5) (.tmp 7) (.const (.bool false)), none⟩,
      ⟨(some 2), .take 8, none⟩])
   (.ret))
def a_r08_letter : AFn := ⟨9, [.tmp 2], c_r08_letter, false⟩
def p_r08_letter : List Nat := [6, 7]
theorem t_r08_letter : cFn Tryd.prog takes Tryd.f45 = some a_r08_letter := by kernel_rfl
theorem n_r08_letter : (Tryd.f45.name == "runtime.NumGoroutine") = false := by kernel_rfl
def tab : List (Nat × AFn) := [(3, a_law08_LexReads), (5, a_law08_LexChecks), (6, a_law08_LexBack), (7, a_law08_LexNumbers), (8, a_law08_LexBlanks), (9, a_law08_LexLong), (12, a_r08_Tokens), (13, a_r08_Same), (17, a_r08_Text), (18, a_r08_Check), (19, a_r08_Lines), (21, a_r08_Number), (25, a_r08_longest), (26, a_r08_Word), (27, a_r08_digits), (36, a_r08_formed), (38, a_r08_digit), (44, a_r08_Sign), (45, a_r08_letter)]
theorem tab_ok : ∀ p ∈ tab, ∃ fn takes, Tryd.prog.funcs[p.1]? = some fn ∧ (fn.name == "runtime.NumGoroutine") = false ∧ cFn Tryd.prog takes fn = some p.2 := by
  intro p hp
  simp only [tab, List.mem_cons, List.not_mem_nil, or_false] at hp
  rcases hp with rfl | rfl | rfl | rfl | rfl | rfl | rfl | rfl | rfl | rfl | rfl | rfl | rfl | rfl | rfl | rfl | rfl | rfl | rfl
  · exact ⟨Tryd.f3, takes, Tryd.func3, n_law08_LexReads, t_law08_LexReads⟩
  · exact ⟨Tryd.f5, takes, Tryd.func5, n_law08_LexChecks, t_law08_LexChecks⟩
  · exact ⟨Tryd.f6, takes, Tryd.func6, n_law08_LexBack, t_law08_LexBack⟩
  · exact ⟨Tryd.f7, takes, Tryd.func7, n_law08_LexNumbers, t_law08_LexNumbers⟩
  · exact ⟨Tryd.f8, takes, Tryd.func8, n_law08_LexBlanks, t_law08_LexBlanks⟩
  · exact ⟨Tryd.f9, takes, Tryd.func9, n_law08_LexLong, t_law08_LexLong⟩
  · exact ⟨Tryd.f12, takes, Tryd.func12, n_r08_Tokens, t_r08_Tokens⟩
  · exact ⟨Tryd.f13, takes, Tryd.func13, n_r08_Same, t_r08_Same⟩
  · exact ⟨Tryd.f17, takes, Tryd.func17, n_r08_Text, t_r08_Text⟩
  · exact ⟨Tryd.f18, takes, Tryd.func18, n_r08_Check, t_r08_Check⟩
  · exact ⟨Tryd.f19, takes, Tryd.func19, n_r08_Lines, t_r08_Lines⟩
  · exact ⟨Tryd.f21, takes, Tryd.func21, n_r08_Number, t_r08_Number⟩
  · exact ⟨Tryd.f25, takes, Tryd.func25, n_r08_longest, t_r08_longest⟩
  · exact ⟨Tryd.f26, takes, Tryd.func26, n_r08_Word, t_r08_Word⟩
  · exact ⟨Tryd.f27, takes, Tryd.func27, n_r08_digits, t_r08_digits⟩
  · exact ⟨Tryd.f36, takes, Tryd.func36, n_r08_formed, t_r08_formed⟩
  · exact ⟨Tryd.f38, takes, Tryd.func38, n_r08_digit, t_r08_digit⟩
  · exact ⟨Tryd.f44, takes, Tryd.func44, n_r08_Sign, t_r08_Sign⟩
  · exact ⟨Tryd.f45, takes, Tryd.func45, n_r08_letter, t_r08_letter⟩
end Go.Proofs.YtiabiflaecidoaaDoor
end
section
/-
  What the functions come to, with the slots gone; printed by wip/abs/T6.lean.txt.
-/
namespace Go.Proofs.YtiabiflaecidoaaDoor
open Go Go.Proofs.YtiabiflaecidoaaDoor.Abs
set_option maxRecDepth 100000
set_option maxHeartbeats 0
set_option linter.all false
def d_law08_LexReads (G : Nat → Option (List AV)) (K : FuncId → List AV → List AObj → KR) (L : Nat) (x0 : AV) (hp0 : List AObj) : KR :=
  optK (lenVal hp0 .str (AV.ro x0)) fun v0 =>
  optK (binVal .gtr .prim v0 (.int .i64 600)) fun v1 =>
  ifK v1
  (opt3 (K F_law08_awake [] hp0) fun v2 h3 f4 =>
  some (finK false hp0 v2 h3 (afterK hp0.length none f4)))
  (opt3 (K F_lex_Tokens [(AV.ro x0)] hp0) fun v5 h6 f7 =>
  optK (extractV (AV.ro v5) 0) fun v8 =>
  optK (extractV (AV.ro v5) 1) fun v9 =>
  optK (extractV (AV.ro v5) 2) fun v10 =>
  opt3 (K F_r08_Tokens [(AV.ro x0)] h6) fun v11 h12 f13 =>
  optK (extractV (AV.ro v11) 0) fun v14 =>
  optK (extractV (AV.ro v11) 1) fun v15 =>
  optK (extractV (AV.ro v11) 2) fun v16 =>
  opt3 (K F_r08_Same [v8, v14] h12) fun v17 h18 f19 =>
  grpK (AV.ro v17) true
  (optK (binVal .eql .prim v9 v15) fun v20 =>
  some (v20, h18, (afterK hp0.length (afterK hp0.length (afterK hp0.length none f7) f13) f19)))
  (some (.bool false)) h18 (afterK hp0.length (afterK hp0.length (afterK hp0.length none f7) f13) f19) fun v21 h22 f23 =>
  grpK (AV.ro v21) true
  (optK (binVal .eql .prim v10 v16) fun v24 =>
  some (v24, h22, f23))
  (some (.bool false)) h22 f23 fun v25 h26 f27 =>
  grpK (AV.ro v25) true
  (opt3 (K F_law08_awake [] h26) fun v28 h29 f30 =>
  some ((AV.ro v28), h29, (afterK hp0.length f27 f30)))
  (some (.bool false)) h26 f27 fun v31 h32 f33 =>
  some (finK false hp0 v31 h32 f33))
theorem d_law08_LexReads_eq (G : Nat → Option (List AV)) (K : FuncId → List AV → List AObj → KR) (L : Nat) (x0 : AV) (hp0 : List AObj) : fnK G K p_law08_LexReads L a_law08_LexReads [x0] hp0 = d_law08_LexReads G K L x0 hp0 := by
  kernel_rfl
theorem law08_LexReads_run {C : Cfg} (h : C.T F_law08_LexReads = some a_law08_LexReads) {n : Nat} {x0 : AV} {hp : List AObj} {r : AV × List AObj × Eff} (hr : d_law08_LexReads C.G (evalCall C n) C.L x0 hp = some r) : evalCall C (n + 1) F_law08_LexReads [x0] hp = some r := fnK_ok h (Nat.le_of_ble_eq_true rfl) ((d_law08_LexReads_eq ..).trans hr)
def d_law08_LexChecks_j1 (G : Nat → Option (List AV)) (K : FuncId → List AV → List AObj → KR) (L : Nat) (hp0 : List AObj)  (x0 : AV) (hp : List AObj) (ef : Eff) : KR :=
  opt3 (K F_lex_Text [x0] hp) fun v5 h6 f7 =>
  optK (extractV (AV.ro v5) 0) fun v8 =>
  optK (extractV (AV.ro v5) 1) fun v9 =>
  opt3 (K F_r08_Text [x0] h6) fun v10 h11 f12 =>
  optK (extractV (AV.ro v10) 0) fun v13 =>
  optK (extractV (AV.ro v10) 1) fun v14 =>
  opt3 (K F_lex_Check [x0] h11) fun v15 h16 f17 =>
  opt3 (K F_r08_Check [x0] h16) fun v18 h19 f20 =>
  optK (binVal .eql .prim (AV.ro v15) (AV.ro v18)) fun v21 =>
  grpK v21 true
  (opt3 (K F_lex_Lines [x0] h19) fun v22 h23 f24 =>
  opt3 (K F_r08_Lines [x0] h23) fun v25 h26 f27 =>
  optK (binVal .eql .prim (AV.ro v22) (AV.ro v25)) fun v28 =>
  some (v28, h26, (afterK hp0.length (afterK hp0.length (afterK hp0.length (afterK hp0.length (afterK hp0.length (afterK hp0.length ef f7) f12) f17) f20) f24) f27)))
  (some (.bool false)) h19 (afterK hp0.length (afterK hp0.length (afterK hp0.length (afterK hp0.length ef f7) f12) f17) f20) fun v29 h30 f31 =>
  grpK (AV.ro v29) true
  (optK (binVal .eql .prim v8 v13) fun v32 =>
  some (v32, h30, f31))
  (some (.bool false)) h30 f31 fun v33 h34 f35 =>
  grpK (AV.ro v33) true
  (optK (binVal .eql .prim v9 v14) fun v36 =>
  some (v36, h34, f35))
  (some (.bool false)) h34 f35 fun v37 h38 f39 =>
  grpK (AV.ro v37) true
  (opt3 (K F_law08_awake [] h38) fun v40 h41 f42 =>
  some ((AV.ro v40), h41, (afterK hp0.length f39 f42)))
  (some (.bool false)) h38 f39 fun v43 h44 f45 =>
  some (finK false hp0 v43 h44 f45)
theorem d_law08_LexChecks_j1_eq (G : Nat → Option (List AV)) (K : FuncId → List AV → List AObj → KR) (L : Nat) (hp0 : List AObj)   : codeK G 69 hp0.length K p_law08_LexChecks L c_law08_LexChecks_j1 (retK p_law08_LexChecks a_law08_LexChecks hp0) (retK p_law08_LexChecks a_law08_LexChecks hp0) [] = fun e hp ef => d_law08_LexChecks_j1 G K L hp0  (e 0).rd hp ef := by
  kernel_rfl
def d_law08_LexChecks_l0 (G : Nat → Option (List AV)) (K : FuncId → List AV → List AObj → KR) (L : Nat) (hp0 : List AObj) (k0 : AV → List AObj → Eff → KR) : Nat → AV → AV → List AObj → Eff → KR
  | 0, _, _, _, _ => none
  | m + 1, x0, x3, hp, ef =>
    optK (lenVal hp .slice x0) fun v46 =>
    optK (binVal .lss .prim x3 v46) fun v47 =>
    ifK v47
    (optK (iaVal (.slice 4) x0 x3) fun v48 =>
    optK (faVal 1 v48) fun v49 =>
    optK (ldcVal hp v49) fun v50 =>
    optK (lenVal hp .str v50) fun v51 =>
    optK (binVal .gtr .prim v51 (.int .i64 40)) fun v52 =>
    grpK v52 false
    (optK (iaVal (.slice 4) x0 x3) fun v53 =>
    optK (faVal 3 v53) fun v54 =>
    optK (ldcVal hp v54) fun v55 =>
    optK (binVal .gtr .prim v55 (.int .i64 30000)) fun v56 =>
    some (v56, hp, ef))
    (some (.bool true)) hp ef fun v57 h58 f59 =>
    ifK (AV.ro v57)
    (opt3 (K F_law08_awake [] h58) fun v60 h61 f62 =>
    some (finK false hp0 v60 h61 (afterK hp0.length f59 f62)))
    (optK (binVal .add .prim x3 (.int .i64 1)) fun v63 =>
    d_law08_LexChecks_l0 G K L hp0 k0 m x0 v63 h58 f59))
    (k0 x0 hp ef)
theorem d_law08_LexChecks_l0_lp (G : Nat → Option (List AV)) (K : FuncId → List AV → List AObj → KR) (L : Nat) (hp0 : List AObj) (k0 : AV → List AObj → Eff → KR)  : ∀ m, loopK (fun n' => codeK G 69 hp0.length K p_law08_LexChecks L c_law08_LexChecks_l0b n' (retK p_law08_LexChecks a_law08_LexChecks hp0) [(0, (fun e hp ef => k0 (e 0).rd hp ef))]) m = fun e hp ef => d_law08_LexChecks_l0 G K L hp0 k0 m (e 0).rd (e 3).rd hp ef := by
  intro m
  induction m with
  | zero => rfl
  | succ m ih =>
    show codeK G 69 hp0.length K p_law08_LexChecks L c_law08_LexChecks_l0b (loopK _ m) (retK p_law08_LexChecks a_law08_LexChecks hp0) [(0, (fun e hp ef => k0 (e 0).rd hp ef))] = _
    rw [ih]
    kernel_rfl
theorem d_law08_LexChecks_l0_eq (G : Nat → Option (List AV)) (K : FuncId → List AV → List AObj → KR) (L : Nat) (hp0 : List AObj) (k0 : AV → List AObj → Eff → KR)  (zn : Cont) : codeK G 69 hp0.length K p_law08_LexChecks L c_law08_LexChecks_l0 zn (retK p_law08_LexChecks a_law08_LexChecks hp0) [(0, (fun e hp ef => k0 (e 0).rd hp ef))] = fun e hp ef => d_law08_LexChecks_l0 G K L hp0 k0 L (e 0).rd (e 3).rd hp ef := d_law08_LexChecks_l0_lp G K L hp0 k0  L
def d_law08_LexChecks (G : Nat → Option (List AV)) (K : FuncId → List AV → List AObj → KR) (L : Nat) (x0 : AV) (hp0 : List AObj) : KR :=
  optK (lenVal hp0 .slice (AV.ro x0)) fun v0 =>
  optK (binVal .gtr .prim v0 (.int .i64 60)) fun v1 =>
  ifK v1
  (opt3 (K F_law08_awake [] hp0) fun v2 h3 f4 =>
  some (finK false hp0 v2 h3 (afterK hp0.length none f4)))
  (d_law08_LexChecks_l0 G K L hp0 (d_law08_LexChecks_j1 G K L hp0 ) L (AV.ro x0) (.int .i64 0) hp0 none)
theorem d_law08_LexChecks_eq (G : Nat → Option (List AV)) (K : FuncId → List AV → List AObj → KR) (L : Nat) (x0 : AV) (hp0 : List AObj) : fnK G K p_law08_LexChecks L a_law08_LexChecks [x0] hp0 = d_law08_LexChecks G K L x0 hp0 := by
  show codeK G 69 hp0.length K p_law08_LexChecks L c_law08_LexChecks (retK p_law08_LexChecks a_law08_LexChecks hp0) (retK p_law08_LexChecks a_law08_LexChecks hp0) [] (argE [x0]) hp0 none = _
  simp only [c_law08_LexChecks, codeK_seq, codeK_block, codeK_scope, codeK_cond]
  rw [d_law08_LexChecks_j1_eq G K L hp0  , d_law08_LexChecks_l0_eq G K L hp0 (d_law08_LexChecks_j1 G K L hp0 )  _]
  kernel_rfl
theorem law08_LexChecks_run {C : Cfg} (h : C.T F_law08_LexChecks = some a_law08_LexChecks) {n : Nat} {x0 : AV} {hp : List AObj} {r : AV × List AObj × Eff} (hr : d_law08_LexChecks C.G (evalCall C n) C.L x0 hp = some r) : evalCall C (n + 1) F_law08_LexChecks [x0] hp = some r := fnK_ok h (Nat.le_of_ble_eq_true rfl) ((d_law08_LexChecks_eq ..).trans hr)
def d_law08_LexBack (G : Nat → Option (List AV)) (K : FuncId → List AV → List AObj → KR) (L : Nat) (x0 : AV) (hp0 : List AObj) : KR :=
  optK (lenVal hp0 .slice (AV.ro x0)) fun v0 =>
  optK (binVal .gtr .prim v0 (.int .i64 200)) fun v1 =>
  ifK v1
  (opt3 (K F_law08_awake [] hp0) fun v2 h3 f4 =>
  some (finK false hp0 v2 h3 (afterK hp0.length none f4)))
  (opt3 (K F_lex_Text [(AV.ro x0)] hp0) fun v5 h6 f7 =>
  optK (extractV (AV.ro v5) 0) fun v8 =>
  optK (extractV (AV.ro v5) 1) fun v9 =>
  optK (binVal .neq .prim v9 (.int .i64 0)) fun v10 =>
  ifK v10
  (opt3 (K F_law08_awake [] h6) fun v11 h12 f13 =>
  some (finK false hp0 v11 h12 (afterK hp0.length (afterK hp0.length none f7) f13)))
  (opt3 (K F_lex_Tokens [v8] h6) fun v14 h15 f16 =>
  optK (extractV (AV.ro v14) 0) fun v17 =>
  optK (extractV (AV.ro v14) 1) fun v18 =>
  optK (extractV (AV.ro v14) 2) fun v19 =>
  optK (binVal .eql .prim v19 (.int .i64 0)) fun v20 =>
  grpK v20 true
  (optK (binVal .eql .prim v18 (.int .i64 0)) fun v21 =>
  some (v21, h15, (afterK hp0.length (afterK hp0.length none f7) f16)))
  (some (.bool false)) h15 (afterK hp0.length (afterK hp0.length none f7) f16) fun v22 h23 f24 =>
  grpK (AV.ro v22) true
  (opt3 (K F_r08_Same [(AV.ro x0), v17] h23) fun v25 h26 f27 =>
  some ((AV.ro v25), h26, (afterK hp0.length f24 f27)))
  (some (.bool false)) h23 f24 fun v28 h29 f30 =>
  grpK (AV.ro v28) true
  (opt3 (K F_law08_awake [] h29) fun v31 h32 f33 =>
  some ((AV.ro v31), h32, (afterK hp0.length f30 f33)))
  (some (.bool false)) h29 f30 fun v34 h35 f36 =>
  some (finK false hp0 v34 h35 f36)))
theorem d_law08_LexBack_eq (G : Nat → Option (List AV)) (K : FuncId → List AV → List AObj → KR) (L : Nat) (x0 : AV) (hp0 : List AObj) : fnK G K p_law08_LexBack L a_law08_LexBack [x0] hp0 = d_law08_LexBack G K L x0 hp0 := by
  kernel_rfl
theorem law08_LexBack_run {C : Cfg} (h : C.T F_law08_LexBack = some a_law08_LexBack) {n : Nat} {x0 : AV} {hp : List AObj} {r : AV × List AObj × Eff} (hr : d_law08_LexBack C.G (evalCall C n) C.L x0 hp = some r) : evalCall C (n + 1) F_law08_LexBack [x0] hp = some r := fnK_ok h (Nat.le_of_ble_eq_true rfl) ((d_law08_LexBack_eq ..).trans hr)
def d_law08_LexNumbers (G : Nat → Option (List AV)) (K : FuncId → List AV → List AObj → KR) (L : Nat) (x0 x1 : AV) (hp0 : List AObj) : KR :=
  opt3 (K F_lex_Number [(AV.ro x0)] hp0) fun v0 h1 f2 =>
  optK (extractV (AV.ro v0) 0) fun v3 =>
  optK (extractV (AV.ro v0) 1) fun v4 =>
  opt3 (K F_r08_Number [(AV.ro x0)] h1) fun v5 h6 f7 =>
  optK (extractV (AV.ro v5) 0) fun v8 =>
  optK (extractV (AV.ro v5) 1) fun v9 =>
  optK (binVal .neq .prim v3 v8) fun v10 =>
  grpK v10 false
  (optK (binVal .neq .bool v4 v9) fun v11 =>
  some (v11, h6, (afterK hp0.length (afterK hp0.length none f2) f7)))
  (some (.bool true)) h6 (afterK hp0.length (afterK hp0.length none f2) f7) fun v12 h13 f14 =>
  grpK (AV.ro v12) false
  (grpK v4 true
  (opt3 (K F_r01_Text [v3] h13) fun v15 h16 f17 =>
  optK (binVal .neq .prim (AV.ro v15) (AV.ro x0)) fun v18 =>
  some (v18, h16, (afterK hp0.length f14 f17)))
  (some (.bool false)) h13 f14 fun v19 h20 f21 =>
  some ((AV.ro v19), h20, f21))
  (some (.bool true)) h13 f14 fun v22 h23 f24 =>
  ifK (AV.ro v22)
  (some (finK false hp0 (.bool false) h23 f24))
  (opt3 (K F_r01_Text [(AV.ro x1)] h23) fun v25 h26 f27 =>
  opt3 (K F_lex_Number [(AV.ro v25)] h26) fun v28 h29 f30 =>
  optK (extractV (AV.ro v28) 0) fun v31 =>
  optK (extractV (AV.ro v28) 1) fun v32 =>
  optK (binVal .geq .prim (AV.ro x1) (.int .i64 0)) fun v33 =>
  grpK v33 true
  (optK (binVal .leq .prim (AV.ro x1) (.int .i64 1000000000000)) fun v34 =>
  some (v34, h29, (afterK hp0.length (afterK hp0.length f24 f27) f30)))
  (some (.bool false)) h29 (afterK hp0.length (afterK hp0.length f24 f27) f30) fun v35 h36 f37 =>
  optK (binVal .neq .bool v32 (AV.ro v35)) fun v38 =>
  grpK v38 false
  (grpK v32 true
  (optK (binVal .neq .prim v31 (AV.ro x1)) fun v39 =>
  some (v39, h36, f37))
  (some (.bool false)) h36 f37 fun v40 h41 f42 =>
  some ((AV.ro v40), h41, f42))
  (some (.bool true)) h36 f37 fun v43 h44 f45 =>
  ifK (AV.ro v43)
  (some (finK false hp0 (.bool false) h44 f45))
  (opt3 (K F_r01_Text [(AV.ro x1)] h44) fun v46 h47 f48 =>
  opt3 (K F_lex_Tokens [(AV.ro v46)] h47) fun v49 h50 f51 =>
  optK (extractV (AV.ro v49) 0) fun v52 =>
  optK (extractV (AV.ro v49) 1) fun v53 =>
  optK (extractV (AV.ro v49) 2) fun v54 =>
  optK (unVal .not v32) fun v55 =>
  grpK v55 false
  (optK (binVal .eql .prim v54 (.int .i64 0)) fun v56 =>
  grpK v56 true
  (optK (lenVal h50 .slice v52) fun v57 =>
  optK (binVal .eql .prim v57 (.int .i64 3)) fun v58 =>
  some (v58, h50, (afterK hp0.length (afterK hp0.length f45 f48) f51)))
  (some (.bool false)) h50 (afterK hp0.length (afterK hp0.length f45 f48) f51) fun v59 h60 f61 =>
  grpK (AV.ro v59) true
  (optK (iaVal (.slice 4) v52 (.int .i64 0)) fun v62 =>
  optK (faVal 2 v62) fun v63 =>
  optK (ldcVal h60 v63) fun v64 =>
  optK (binVal .eql .prim v64 (AV.ro x1)) fun v65 =>
  some (v65, h60, f61))
  (some (.bool false)) h60 f61 fun v66 h67 f68 =>
  grpK (AV.ro v66) true
  (optK (iaVal (.slice 4) v52 (.int .i64 0)) fun v69 =>
  optK (faVal 0 v69) fun v70 =>
  optK (ldcVal h67 v70) fun v71 =>
  optK (binVal .eql .prim v71 (.int .i64 2)) fun v72 =>
  some (v72, h67, f68))
  (some (.bool false)) h67 f68 fun v73 h74 f75 =>
  some ((AV.ro v73), h74, f75))
  (some (.bool true)) h50 (afterK hp0.length (afterK hp0.length f45 f48) f51) fun v76 h77 f78 =>
  grpK (AV.ro v76) true
  (opt3 (K F_law08_awake [] h77) fun v79 h80 f81 =>
  some ((AV.ro v79), h80, (afterK hp0.length f78 f81)))
  (some (.bool false)) h77 f78 fun v82 h83 f84 =>
  some (finK false hp0 v82 h83 f84)))
theorem d_law08_LexNumbers_eq (G : Nat → Option (List AV)) (K : FuncId → List AV → List AObj → KR) (L : Nat) (x0 x1 : AV) (hp0 : List AObj) : fnK G K p_law08_LexNumbers L a_law08_LexNumbers [x0, x1] hp0 = d_law08_LexNumbers G K L x0 x1 hp0 := by
  kernel_rfl
theorem law08_LexNumbers_run {C : Cfg} (h : C.T F_law08_LexNumbers = some a_law08_LexNumbers) {n : Nat} {x0 x1 : AV} {hp : List AObj} {r : AV × List AObj × Eff} (hr : d_law08_LexNumbers C.G (evalCall C n) C.L x0 x1 hp = some r) : evalCall C (n + 1) F_law08_LexNumbers [x0, x1] hp = some r := fnK_ok h (Nat.le_of_ble_eq_true rfl) ((d_law08_LexNumbers_eq ..).trans hr)
def d_law08_LexBlanks_j4 (G : Nat → Option (List AV)) (K : FuncId → List AV → List AObj → KR) (L : Nat) (hp0 : List AObj)   (hp : List AObj) (ef : Eff) : KR :=
  opt3 (K F_law08_awake [] hp) fun v58 h59 f60 =>
  some (finK false hp0 v58 h59 (afterK hp0.length ef f60))
theorem d_law08_LexBlanks_j4_eq (G : Nat → Option (List AV)) (K : FuncId → List AV → List AObj → KR) (L : Nat) (hp0 : List AObj)   : codeK G 139 hp0.length K p_law08_LexBlanks L c_law08_LexBlanks_j4 (retK p_law08_LexBlanks a_law08_LexBlanks hp0) (retK p_law08_LexBlanks a_law08_LexBlanks hp0) [] = fun e hp ef => d_law08_LexBlanks_j4 G K L hp0   hp ef := by
  kernel_rfl
def d_law08_LexBlanks_l3 (G : Nat → Option (List AV)) (K : FuncId → List AV → List AObj → KR) (L : Nat) (hp0 : List AObj) (k2 : List AObj → Eff → KR) : Nat → AV → AV → AV → List AObj → Eff → KR
  | 0, _, _, _, _, _ => none
  | m + 1, x9, x15, x18, hp, ef =>
    optK (lenVal hp .slice x9) fun v61 =>
    optK (binVal .lss .prim x18 v61) fun v62 =>
    ifK v62
    (optK (lenVal hp .slice x9) fun v63 =>
    optK (binVal .sub .prim v63 (.int .i64 1)) fun v64 =>
    optK (binVal .lss .prim x18 v64) fun v65 =>
    grpK v65 true
    (optK (iaVal (.slice 4) x9 x18) fun v66 =>
    optK (ldaVal hp 4 v66) fun v67 =>
    optK (iaVal (.slice 4) x15 x18) fun v68 =>
    optK (ldaVal hp 4 v68) fun v69 =>
    optK (binVal .neq (.struct [.int, .str, .int, .int]) v67 v69) fun v70 =>
    some (v70, hp, ef))
    (some (.bool false)) hp ef fun v71 h72 f73 =>
    grpK (AV.ro v71) false
    (optK (lenVal h72 .slice x9) fun v74 =>
    optK (binVal .sub .prim v74 (.int .i64 1)) fun v75 =>
    optK (binVal .eql .prim x18 v75) fun v76 =>
    grpK v76 true
    (optK (iaVal (.slice 4) x15 x18) fun v77 =>
    optK (faVal 3 v77) fun v78 =>
    optK (ldcVal h72 v78) fun v79 =>
    optK (iaVal (.slice 4) x9 x18) fun v80 =>
    optK (faVal 3 v80) fun v81 =>
    optK (ldcVal h72 v81) fun v82 =>
    optK (binVal .add .prim v82 (.int .i64 1)) fun v83 =>
    optK (binVal .neq .prim v79 v83) fun v84 =>
    some (v84, h72, f73))
    (some (.bool false)) h72 f73 fun v85 h86 f87 =>
    some ((AV.ro v85), h86, f87))
    (some (.bool true)) h72 f73 fun v88 h89 f90 =>
    ifK (AV.ro v88)
    (some (finK false hp0 (.bool false) h89 f90))
    (optK (binVal .add .prim x18 (.int .i64 1)) fun v91 =>
    d_law08_LexBlanks_l3 G K L hp0 k2 m x9 x15 v91 h89 f90))
    (k2  hp ef)
theorem d_law08_LexBlanks_l3_lp (G : Nat → Option (List AV)) (K : FuncId → List AV → List AObj → KR) (L : Nat) (hp0 : List AObj) (k2 : List AObj → Eff → KR)  : ∀ m, loopK (fun n' => codeK G 139 hp0.length K p_law08_LexBlanks L c_law08_LexBlanks_l3b n' (retK p_law08_LexBlanks a_law08_LexBlanks hp0) [(2, (fun e hp ef => k2  hp ef))]) m = fun e hp ef => d_law08_LexBlanks_l3 G K L hp0 k2 m (e 9).rd (e 15).rd (e 18).rd hp ef := by
  intro m
  induction m with
  | zero => rfl
  | succ m ih =>
    show codeK G 139 hp0.length K p_law08_LexBlanks L c_law08_LexBlanks_l3b (loopK _ m) (retK p_law08_LexBlanks a_law08_LexBlanks hp0) [(2, (fun e hp ef => k2  hp ef))] = _
    rw [ih]
    kernel_rfl
theorem d_law08_LexBlanks_l3_eq (G : Nat → Option (List AV)) (K : FuncId → List AV → List AObj → KR) (L : Nat) (hp0 : List AObj) (k2 : List AObj → Eff → KR)  (zn : Cont) : codeK G 139 hp0.length K p_law08_LexBlanks L c_law08_LexBlanks_l3 zn (retK p_law08_LexBlanks a_law08_LexBlanks hp0) [(2, (fun e hp ef => k2  hp ef))] = fun e hp ef => d_law08_LexBlanks_l3 G K L hp0 k2 L (e 9).rd (e 15).rd (e 18).rd hp ef := d_law08_LexBlanks_l3_lp G K L hp0 k2  L
def d_law08_LexBlanks_j2 (G : Nat → Option (List AV)) (K : FuncId → List AV → List AObj → KR) (L : Nat) (hp0 : List AObj)  (x0 : AV) (x1 : AV) (x8 : AV) (hp : List AObj) (ef : Eff) : KR :=
  opt3 (K F_lex_Tokens [x0] hp) fun v10 h11 f12 =>
  optK (extractV (AV.ro v10) 0) fun v13 =>
  optK (extractV (AV.ro v10) 1) fun v14 =>
  optK (extractV (AV.ro v10) 2) fun v15 =>
  optK (binVal .add .prim x0 x8) fun v16 =>
  optK (binVal .add .prim v16 (.str [35])) fun v17 =>
  optK (binVal .add .prim v17 x1) fun v18 =>
  opt3 (K F_lex_Tokens [v18] h11) fun v19 h20 f21 =>
  optK (extractV (AV.ro v19) 0) fun v22 =>
  optK (extractV (AV.ro v19) 1) fun v23 =>
  optK (extractV (AV.ro v19) 2) fun v24 =>
  optK (binVal .add .prim x0 (.str [10])) fun v25 =>
  opt3 (K F_lex_Tokens [v25] h20) fun v26 h27 f28 =>
  optK (extractV (AV.ro v26) 0) fun v29 =>
  optK (extractV (AV.ro v26) 1) fun v30 =>
  optK (extractV (AV.ro v26) 2) fun v31 =>
  opt3 (K F_r08_Same [v13, v22] h27) fun v32 h33 f34 =>
  optK (unVal .not (AV.ro v32)) fun v35 =>
  grpK v35 false
  (optK (binVal .neq .prim v14 v23) fun v36 =>
  some (v36, h33, (afterK hp0.length (afterK hp0.length (afterK hp0.length (afterK hp0.length ef f12) f21) f28) f34)))
  (some (.bool true)) h33 (afterK hp0.length (afterK hp0.length (afterK hp0.length (afterK hp0.length ef f12) f21) f28) f34) fun v37 h38 f39 =>
  grpK (AV.ro v37) false
  (optK (binVal .neq .prim v15 v24) fun v40 =>
  some (v40, h38, f39))
  (some (.bool true)) h38 f39 fun v41 h42 f43 =>
  grpK (AV.ro v41) false
  (optK (binVal .neq .prim v31 v15) fun v44 =>
  some (v44, h42, f43))
  (some (.bool true)) h42 f43 fun v45 h46 f47 =>
  grpK (AV.ro v45) false
  (optK (binVal .neq .prim v30 v14) fun v48 =>
  some (v48, h46, f47))
  (some (.bool true)) h46 f47 fun v49 h50 f51 =>
  grpK (AV.ro v49) false
  (optK (lenVal h50 .slice v29) fun v52 =>
  optK (lenVal h50 .slice v13) fun v53 =>
  optK (binVal .neq .prim v52 v53) fun v54 =>
  some (v54, h50, f51))
  (some (.bool true)) h50 f51 fun v55 h56 f57 =>
  ifK (AV.ro v55)
  (some (finK false hp0 (.bool false) h56 f57))
  (d_law08_LexBlanks_l3 G K L hp0 (d_law08_LexBlanks_j4 G K L hp0 ) L v13 v29 (.int .i64 0) h56 f57)
theorem d_law08_LexBlanks_j2_eq (G : Nat → Option (List AV)) (K : FuncId → List AV → List AObj → KR) (L : Nat) (hp0 : List AObj)   : codeK G 139 hp0.length K p_law08_LexBlanks L c_law08_LexBlanks_j2 (retK p_law08_LexBlanks a_law08_LexBlanks hp0) (retK p_law08_LexBlanks a_law08_LexBlanks hp0) [] = fun e hp ef => d_law08_LexBlanks_j2 G K L hp0  (e 0).rd (e 1).rd (e 8).rd hp ef := by
  simp only [c_law08_LexBlanks_j2, codeK_seq, codeK_block, codeK_scope, codeK_cond]
  rw [d_law08_LexBlanks_j4_eq G K L hp0  , d_law08_LexBlanks_l3_eq G K L hp0 (d_law08_LexBlanks_j4 G K L hp0 )  _]
  kernel_rfl
def d_law08_LexBlanks_j1 (G : Nat → Option (List AV)) (K : FuncId → List AV → List AObj → KR) (L : Nat) (hp0 : List AObj)  (x0 : AV) (x1 : AV) (x2 : AV) (hp : List AObj) (ef : Eff) : KR :=
  ifK x2
  (d_law08_LexBlanks_j2 G K L hp0  x0 x1 (.str [32, 9]) hp ef)
  (d_law08_LexBlanks_j2 G K L hp0  x0 x1 (.str [32, 32]) hp ef)
theorem d_law08_LexBlanks_j1_eq (G : Nat → Option (List AV)) (K : FuncId → List AV → List AObj → KR) (L : Nat) (hp0 : List AObj)   : codeK G 139 hp0.length K p_law08_LexBlanks L c_law08_LexBlanks_j1 (retK p_law08_LexBlanks a_law08_LexBlanks hp0) (retK p_law08_LexBlanks a_law08_LexBlanks hp0) [] = fun e hp ef => d_law08_LexBlanks_j1 G K L hp0  (e 0).rd (e 1).rd (e 2).rd hp ef := by
  simp only [c_law08_LexBlanks_j1, codeK_seq, codeK_block, codeK_scope, codeK_cond]
  rw [d_law08_LexBlanks_j2_eq G K L hp0  ]
  kernel_rfl
def d_law08_LexBlanks_l0 (G : Nat → Option (List AV)) (K : FuncId → List AV → List AObj → KR) (L : Nat) (hp0 : List AObj) (k0 : AV → AV → AV → List AObj → Eff → KR) : Nat → AV → AV → AV → AV → List AObj → Eff → KR
  | 0, _, _, _, _, _, _ => none
  | m + 1, x0, x1, x2, x7, hp, ef =>
    optK (lenVal hp .str x1) fun v92 =>
    optK (binVal .lss .prim x7 v92) fun v93 =>
    ifK v93
    (optK (idxVal x1 x7) fun v94 =>
    optK (binVal .eql .prim v94 (.int .u8 10)) fun v95 =>
    ifK v95
    (opt3 (K F_law08_awake [] hp) fun v96 h97 f98 =>
    some (finK false hp0 v96 h97 (afterK hp0.length ef f98)))
    (optK (binVal .add .prim x7 (.int .i64 1)) fun v99 =>
    d_law08_LexBlanks_l0 G K L hp0 k0 m x0 x1 x2 v99 hp ef))
    (k0 x0 x1 x2 hp ef)
theorem d_law08_LexBlanks_l0_lp (G : Nat → Option (List AV)) (K : FuncId → List AV → List AObj → KR) (L : Nat) (hp0 : List AObj) (k0 : AV → AV → AV → List AObj → Eff → KR)  : ∀ m, loopK (fun n' => codeK G 139 hp0.length K p_law08_LexBlanks L c_law08_LexBlanks_l0b n' (retK p_law08_LexBlanks a_law08_LexBlanks hp0) [(0, (fun e hp ef => k0 (e 0).rd (e 1).rd (e 2).rd hp ef))]) m = fun e hp ef => d_law08_LexBlanks_l0 G K L hp0 k0 m (e 0).rd (e 1).rd (e 2).rd (e 7).rd hp ef := by
  intro m
  induction m with
  | zero => rfl
  | succ m ih =>
    show codeK G 139 hp0.length K p_law08_LexBlanks L c_law08_LexBlanks_l0b (loopK _ m) (retK p_law08_LexBlanks a_law08_LexBlanks hp0) [(0, (fun e hp ef => k0 (e 0).rd (e 1).rd (e 2).rd hp ef))] = _
    rw [ih]
    kernel_rfl
theorem d_law08_LexBlanks_l0_eq (G : Nat → Option (List AV)) (K : FuncId → List AV → List AObj → KR) (L : Nat) (hp0 : List AObj) (k0 : AV → AV → AV → List AObj → Eff → KR)  (zn : Cont) : codeK G 139 hp0.length K p_law08_LexBlanks L c_law08_LexBlanks_l0 zn (retK p_law08_LexBlanks a_law08_LexBlanks hp0) [(0, (fun e hp ef => k0 (e 0).rd (e 1).rd (e 2).rd hp ef))] = fun e hp ef => d_law08_LexBlanks_l0 G K L hp0 k0 L (e 0).rd (e 1).rd (e 2).rd (e 7).rd hp ef := d_law08_LexBlanks_l0_lp G K L hp0 k0  L
def d_law08_LexBlanks (G : Nat → Option (List AV)) (K : FuncId → List AV → List AObj → KR) (L : Nat) (x0 x1 x2 : AV) (hp0 : List AObj) : KR :=
  optK (lenVal hp0 .str (AV.ro x0)) fun v0 =>
  optK (binVal .gtr .prim v0 (.int .i64 300)) fun v1 =>
  grpK v1 false
  (optK (lenVal hp0 .str (AV.ro x1)) fun v2 =>
  optK (binVal .gtr .prim v2 (.int .i64 100)) fun v3 =>
  some (v3, hp0, none))
  (some (.bool true)) hp0 none fun v4 h5 f6 =>
  ifK (AV.ro v4)
  (opt3 (K F_law08_awake [] h5) fun v7 h8 f9 =>
  some (finK false hp0 v7 h8 (afterK hp0.length f6 f9)))
  (d_law08_LexBlanks_l0 G K L hp0 (d_law08_LexBlanks_j1 G K L hp0 ) L (AV.ro x0) (AV.ro x1) (AV.ro x2) (.int .i64 0) h5 f6)
theorem d_law08_LexBlanks_eq (G : Nat → Option (List AV)) (K : FuncId → List AV → List AObj → KR) (L : Nat) (x0 x1 x2 : AV) (hp0 : List AObj) : fnK G K p_law08_LexBlanks L a_law08_LexBlanks [x0, x1, x2] hp0 = d_law08_LexBlanks G K L x0 x1 x2 hp0 := by
  show codeK G 139 hp0.length K p_law08_LexBlanks L c_law08_LexBlanks (retK p_law08_LexBlanks a_law08_LexBlanks hp0) (retK p_law08_LexBlanks a_law08_LexBlanks hp0) [] (argE [x0, x1, x2]) hp0 none = _
  simp only [c_law08_LexBlanks, codeK_seq, codeK_block, codeK_scope, codeK_cond]
  rw [d_law08_LexBlanks_j1_eq G K L hp0  , d_law08_LexBlanks_l0_eq G K L hp0 (d_law08_LexBlanks_j1 G K L hp0 )  _]
  kernel_rfl
theorem law08_LexBlanks_run {C : Cfg} (h : C.T F_law08_LexBlanks = some a_law08_LexBlanks) {n : Nat} {x0 x1 x2 : AV} {hp : List AObj} {r : AV × List AObj × Eff} (hr : d_law08_LexBlanks C.G (evalCall C n) C.L x0 x1 x2 hp = some r) : evalCall C (n + 1) F_law08_LexBlanks [x0, x1, x2] hp = some r := fnK_ok h (Nat.le_of_ble_eq_true rfl) ((d_law08_LexBlanks_eq ..).trans hr)
def d_law08_LexLong_j1 (G : Nat → Option (List AV)) (K : FuncId → List AV → List AObj → KR) (L : Nat) (hp0 : List AObj)  (x0 : AV) (x3 : AV) (hp : List AObj) (ef : Eff) : KR :=
  optK (convVal hp .ofBytes x3) fun v10 =>
  opt3 (K F_lex_Tokens [v10] hp) fun v11 h12 f13 =>
  optK (extractV (AV.ro v11) 0) fun v14 =>
  optK (extractV (AV.ro v11) 1) fun v15 =>
  optK (extractV (AV.ro v11) 2) fun v16 =>
  optK (binVal .gtr .prim x0 (.int .i64 20000)) fun v17 =>
  ifK v17
  (optK (binVal .eql .prim v16 (.int .i64 6)) fun v18 =>
  grpK v18 true
  (optK (binVal .eql .prim v15 (.int .i64 0)) fun v19 =>
  some (v19, h12, (afterK hp0.length ef f13)))
  (some (.bool false)) h12 (afterK hp0.length ef f13) fun v20 h21 f22 =>
  grpK (AV.ro v20) true
  (optK (lenVal h21 .slice v14) fun v23 =>
  optK (binVal .eql .prim v23 (.int .i64 0)) fun v24 =>
  some (v24, h21, f22))
  (some (.bool false)) h21 f22 fun v25 h26 f27 =>
  grpK (AV.ro v25) true
  (opt3 (K F_law08_awake [] h26) fun v28 h29 f30 =>
  some ((AV.ro v28), h29, (afterK hp0.length f27 f30)))
  (some (.bool false)) h26 f27 fun v31 h32 f33 =>
  some (finK false hp0 v31 h32 f33))
  (optK (binVal .eql .prim v16 (.int .i64 0)) fun v34 =>
  grpK v34 true
  (optK (binVal .eql .prim v15 (.int .i64 0)) fun v35 =>
  some (v35, h12, (afterK hp0.length ef f13)))
  (some (.bool false)) h12 (afterK hp0.length ef f13) fun v36 h37 f38 =>
  grpK (AV.ro v36) true
  (optK (lenVal h37 .slice v14) fun v39 =>
  optK (binVal .eql .prim v39 (.int .i64 3)) fun v40 =>
  some (v40, h37, f38))
  (some (.bool false)) h37 f38 fun v41 h42 f43 =>
  grpK (AV.ro v41) true
  (optK (iaVal (.slice 4) v14 (.int .i64 0)) fun v44 =>
  optK (faVal 1 v44) fun v45 =>
  optK (ldcVal h42 v45) fun v46 =>
  optK (lenVal h42 .str v46) fun v47 =>
  optK (binVal .eql .prim v47 x0) fun v48 =>
  some (v48, h42, f43))
  (some (.bool false)) h42 f43 fun v49 h50 f51 =>
  grpK (AV.ro v49) true
  (opt3 (K F_law08_awake [] h50) fun v52 h53 f54 =>
  some ((AV.ro v52), h53, (afterK hp0.length f51 f54)))
  (some (.bool false)) h50 f51 fun v55 h56 f57 =>
  some (finK false hp0 v55 h56 f57))
theorem d_law08_LexLong_j1_eq (G : Nat → Option (List AV)) (K : FuncId → List AV → List AObj → KR) (L : Nat) (hp0 : List AObj)   : codeK G 71 hp0.length K p_law08_LexLong L c_law08_LexLong_j1 (retK p_law08_LexLong a_law08_LexLong hp0) (retK p_law08_LexLong a_law08_LexLong hp0) [] = fun e hp ef => d_law08_LexLong_j1 G K L hp0  (e 0).rd (e 3).rd hp ef := by
  kernel_rfl
def d_law08_LexLong_l0 (G : Nat → Option (List AV)) (K : FuncId → List AV → List AObj → KR) (L : Nat) (hp0 : List AObj) (k0 : AV → AV → List AObj → Eff → KR) : Nat → AV → AV → AV → List AObj → Eff → KR
  | 0, _, _, _, _, _ => none
  | m + 1, x0, x3, x4, hp, ef =>
    optK (binVal .lss .prim x4 x0) fun v58 =>
    ifK v58
    (optK (iaVal (.slice 1) x3 x4) fun v59 =>
    opt2 (stV hp0.length 1 v59 (.int .u8 97) hp ef) fun h60 f61 =>
    optK (binVal .add .prim x4 (.int .i64 1)) fun v62 =>
    d_law08_LexLong_l0 G K L hp0 k0 m x0 x3 v62 h60 f61)
    (k0 x0 x3 hp ef)
theorem d_law08_LexLong_l0_lp (G : Nat → Option (List AV)) (K : FuncId → List AV → List AObj → KR) (L : Nat) (hp0 : List AObj) (k0 : AV → AV → List AObj → Eff → KR)  : ∀ m, loopK (fun n' => codeK G 71 hp0.length K p_law08_LexLong L c_law08_LexLong_l0b n' (retK p_law08_LexLong a_law08_LexLong hp0) [(0, (fun e hp ef => k0 (e 0).rd (e 3).rd hp ef))]) m = fun e hp ef => d_law08_LexLong_l0 G K L hp0 k0 m (e 0).rd (e 3).rd (e 4).rd hp ef := by
  intro m
  induction m with
  | zero => rfl
  | succ m ih =>
    show codeK G 71 hp0.length K p_law08_LexLong L c_law08_LexLong_l0b (loopK _ m) (retK p_law08_LexLong a_law08_LexLong hp0) [(0, (fun e hp ef => k0 (e 0).rd (e 3).rd hp ef))] = _
    rw [ih]
    kernel_rfl
theorem d_law08_LexLong_l0_eq (G : Nat → Option (List AV)) (K : FuncId → List AV → List AObj → KR) (L : Nat) (hp0 : List AObj) (k0 : AV → AV → List AObj → Eff → KR)  (zn : Cont) : codeK G 71 hp0.length K p_law08_LexLong L c_law08_LexLong_l0 zn (retK p_law08_LexLong a_law08_LexLong hp0) [(0, (fun e hp ef => k0 (e 0).rd (e 3).rd hp ef))] = fun e hp ef => d_law08_LexLong_l0 G K L hp0 k0 L (e 0).rd (e 3).rd (e 4).rd hp ef := d_law08_LexLong_l0_lp G K L hp0 k0  L
def d_law08_LexLong (G : Nat → Option (List AV)) (K : FuncId → List AV → List AObj → KR) (L : Nat) (x0 : AV) (hp0 : List AObj) : KR :=
  optK (binVal .lss .prim (AV.ro x0) (.int .i64 19990)) fun v0 =>
  grpK v0 false
  (optK (binVal .gtr .prim (AV.ro x0) (.int .i64 20010)) fun v1 =>
  some (v1, hp0, none))
  (some (.bool true)) hp0 none fun v2 h3 f4 =>
  ifK (AV.ro v2)
  (opt3 (K F_law08_awake [] h3) fun v5 h6 f7 =>
  some (finK false hp0 v5 h6 (afterK hp0.length f4 f7)))
  (opt2 (mkslV ty_uint8 [(.int .u8 0)] (AV.ro x0) h3) fun v8 h9 =>
  d_law08_LexLong_l0 G K L hp0 (d_law08_LexLong_j1 G K L hp0 ) L (AV.ro x0) v8 (.int .i64 0) h9 f4)
theorem d_law08_LexLong_eq (G : Nat → Option (List AV)) (K : FuncId → List AV → List AObj → KR) (L : Nat) (x0 : AV) (hp0 : List AObj) : fnK G K p_law08_LexLong L a_law08_LexLong [x0] hp0 = d_law08_LexLong G K L x0 hp0 := by
  show codeK G 71 hp0.length K p_law08_LexLong L c_law08_LexLong (retK p_law08_LexLong a_law08_LexLong hp0) (retK p_law08_LexLong a_law08_LexLong hp0) [] (argE [x0]) hp0 none = _
  simp only [c_law08_LexLong, codeK_seq, codeK_block, codeK_scope, codeK_cond]
  rw [d_law08_LexLong_j1_eq G K L hp0  , d_law08_LexLong_l0_eq G K L hp0 (d_law08_LexLong_j1 G K L hp0 )  _]
  kernel_rfl
theorem law08_LexLong_run {C : Cfg} (h : C.T F_law08_LexLong = some a_law08_LexLong) {n : Nat} {x0 : AV} {hp : List AObj} {r : AV × List AObj × Eff} (hr : d_law08_LexLong C.G (evalCall C n) C.L x0 hp = some r) : evalCall C (n + 1) F_law08_LexLong [x0] hp = some r := fnK_ok h (Nat.le_of_ble_eq_true rfl) ((d_law08_LexLong_eq ..).trans hr)
def d_r08_Tokens_j7 (G : Nat → Option (List AV)) (K : FuncId → List AV → List AObj → KR) (L : Nat) (hp0 : List AObj)  (y5 : AV) (x6 : AV) (hp : List AObj) (ef : Eff) : KR :=
  optK (fill [(.int .i64 0), (.str []), (.int .i64 0), (.int .i64 0)] [(0, 1, AV.nm (.int .i64 0)), (3, 1, AV.nm x6)]) fun v2 =>
  opt2 (litV ty_api_Token 4 [(.agg v2)] hp) fun v3 h4 =>
  optK (appV 4 40 y5 (AV.ro v3) h4) fun v5 =>
  some (finK false hp0 (.tup [(AV.nm v5), (AV.nm (.int .i64 0)), (AV.nm (.int .i64 0))]) h4 ef)
theorem d_r08_Tokens_j7_eq (G : Nat → Option (List AV)) (K : FuncId → List AV → List AObj → KR) (L : Nat) (hp0 : List AObj)   : codeK G 106 hp0.length K p_r08_Tokens L c_r08_Tokens_j7 (retK p_r08_Tokens a_r08_Tokens hp0) (retK p_r08_Tokens a_r08_Tokens hp0) [] = fun e hp ef => d_r08_Tokens_j7 G K L hp0  (e 5).val (e 6).rd hp ef := by
  kernel_rfl
def d_r08_Tokens_j6 (G : Nat → Option (List AV)) (K : FuncId → List AV → List AObj → KR) (L : Nat) (hp0 : List AObj)  (y5 : AV) (x6 : AV) (x7 : AV) (hp : List AObj) (ef : Eff) : KR :=
  ifK x7
  (optK (fill [(.int .i64 0), (.str []), (.int .i64 0), (.int .i64 0)] [(0, 1, AV.nm (.int .i64 4)), (3, 1, AV.nm x6)]) fun v6 =>
  opt2 (litV ty_api_Token 4 [(.agg v6)] hp) fun v7 h8 =>
  optK (appV 4 40 y5 (AV.ro v7) h8) fun v9 =>
  d_r08_Tokens_j7 G K L hp0  v9 x6 h8 ef)
  (d_r08_Tokens_j7 G K L hp0  y5 x6 hp ef)
theorem d_r08_Tokens_j6_eq (G : Nat → Option (List AV)) (K : FuncId → List AV → List AObj → KR) (L : Nat) (hp0 : List AObj)   : codeK G 106 hp0.length K p_r08_Tokens L c_r08_Tokens_j6 (retK p_r08_Tokens a_r08_Tokens hp0) (retK p_r08_Tokens a_r08_Tokens hp0) [] = fun e hp ef => d_r08_Tokens_j6 G K L hp0  (e 5).val (e 6).rd (e 7).rd hp ef := by
  simp only [c_r08_Tokens_j6, codeK_seq, codeK_block, codeK_scope, codeK_cond]
  rw [d_r08_Tokens_j7_eq G K L hp0  ]
  kernel_rfl
def d_r08_Tokens_l2 (G : Nat → Option (List AV)) (K : FuncId → List AV → List AObj → KR) (L : Nat) (hp0 : List AObj) (k3 : AV → AV → AV → AV → AV → AV → List AObj → Eff → KR) : Nat → AV → AV → AV → AV → AV → AV → List AObj → Eff → KR
  | 0, _, _, _, _, _, _, _, _ => none
  | m + 1, x0, y5, x6, y6, x7, x8, hp, ef =>
    optK (lenVal hp .str x0) fun v15 =>
    optK (binVal .lss .prim x8 v15) fun v16 =>
    grpK v16 true
    (optK (idxVal x0 x8) fun v17 =>
    optK (binVal .neq .prim v17 (.int .u8 10)) fun v18 =>
    some (v18, hp, ef))
    (some (.bool false)) hp ef fun v19 h20 f21 =>
    ifK (AV.ro v19)
    (optK (binVal .add .prim x8 (.int .i64 1)) fun v22 =>
    d_r08_Tokens_l2 G K L hp0 k3 m x0 y5 x6 y6 x7 v22 h20 f21)
    (k3 x0 y5 x6 y6 x7 x8 h20 f21)
theorem d_r08_Tokens_l2_lp (G : Nat → Option (List AV)) (K : FuncId → List AV → List AObj → KR) (L : Nat) (hp0 : List AObj) (k3 : AV → AV → AV → AV → AV → AV → List AObj → Eff → KR) (z2 z1 z0 : Cont) : ∀ m, loopK (fun n' => codeK G 106 hp0.length K p_r08_Tokens L c_r08_Tokens_l2b n' (retK p_r08_Tokens a_r08_Tokens hp0) [(3, (fun e hp ef => k3 (e 0).rd (e 5).val (e 6).rd (e 6).val (e 7).rd (e 8).rd hp ef)), (2, z2), (1, z1), (0, z0)]) m = fun e hp ef => d_r08_Tokens_l2 G K L hp0 k3 m (e 0).rd (e 5).val (e 6).rd (e 6).val (e 7).rd (e 8).rd hp ef := by
  intro m
  induction m with
  | zero => rfl
  | succ m ih =>
    show codeK G 106 hp0.length K p_r08_Tokens L c_r08_Tokens_l2b (loopK _ m) (retK p_r08_Tokens a_r08_Tokens hp0) [(3, (fun e hp ef => k3 (e 0).rd (e 5).val (e 6).rd (e 6).val (e 7).rd (e 8).rd hp ef)), (2, z2), (1, z1), (0, z0)] = _
    rw [ih]
    kernel_rfl
theorem d_r08_Tokens_l2_eq (G : Nat → Option (List AV)) (K : FuncId → List AV → List AObj → KR) (L : Nat) (hp0 : List AObj) (k3 : AV → AV → AV → AV → AV → AV → List AObj → Eff → KR) (z2 z1 z0 : Cont) (zn : Cont) : codeK G 106 hp0.length K p_r08_Tokens L c_r08_Tokens_l2 zn (retK p_r08_Tokens a_r08_Tokens hp0) [(3, (fun e hp ef => k3 (e 0).rd (e 5).val (e 6).rd (e 6).val (e 7).rd (e 8).rd hp ef)), (2, z2), (1, z1), (0, z0)] = fun e hp ef => d_r08_Tokens_l2 G K L hp0 k3 L (e 0).rd (e 5).val (e 6).rd (e 6).val (e 7).rd (e 8).rd hp ef := d_r08_Tokens_l2_lp G K L hp0 k3 z2 z1 z0 L
def d_r08_Tokens_j3 (G : Nat → Option (List AV)) (K : FuncId → List AV → List AObj → KR) (L : Nat) (hp0 : List AObj) (kn : AV → AV → AV → AV → AV → AV → List AObj → Eff → KR) (x0 : AV) (y5 : AV) (x6 : AV) (x8 : AV) (hp : List AObj) (ef : Eff) : KR :=
  optK (binVal .add .prim x6 (.int .i64 1)) fun v24 =>
  optK (binVal .add .prim x8 (.int .i64 1)) fun v25 =>
  kn x0 y5 v24 v24 (.bool false) v25 hp ef
theorem d_r08_Tokens_j3_eq (G : Nat → Option (List AV)) (K : FuncId → List AV → List AObj → KR) (L : Nat) (hp0 : List AObj) (kn : AV → AV → AV → AV → AV → AV → List AObj → Eff → KR) (z2 z1 z0 : Cont) : codeK G 106 hp0.length K p_r08_Tokens L c_r08_Tokens_j3 (fun e hp ef => kn (e 0).rd (e 5).val (e 6).rd (e 6).val (e 7).rd (e 8).rd hp ef) (retK p_r08_Tokens a_r08_Tokens hp0) [(2, z2), (1, z1), (0, z0)] = fun e hp ef => d_r08_Tokens_j3 G K L hp0 kn (e 0).rd (e 5).val (e 6).rd (e 8).rd hp ef := by
  kernel_rfl
def d_r08_Tokens_j5 (G : Nat → Option (List AV)) (K : FuncId → List AV → List AObj → KR) (L : Nat) (hp0 : List AObj) (kn : AV → AV → AV → AV → AV → AV → List AObj → Eff → KR) (x0 : AV) (y5 : AV) (x6 : AV) (y6 : AV) (x8 : AV) (x9 : AV) (x10 : AV) (hp : List AObj) (ef : Eff) : KR :=
  optK (binVal .eql .prim x9 (.int .i64 0)) fun v40 =>
  ifK v40
  (some (finK false hp0 (.tup [(AV.nm (.own 4 [])), (AV.nm y6), (AV.nm (.int .i64 8))]) hp ef))
  (optK (ldaVal hp 4 x10) fun v41 =>
  opt2 (litV ty_api_Token 4 [v41] hp) fun v42 h43 =>
  optK (appV 4 40 y5 (AV.ro v42) h43) fun v44 =>
  optK (binVal .add .prim x8 x9) fun v45 =>
  kn x0 v44 x6 y6 (.bool true) v45 h43 ef)
theorem d_r08_Tokens_j5_eq (G : Nat → Option (List AV)) (K : FuncId → List AV → List AObj → KR) (L : Nat) (hp0 : List AObj) (kn : AV → AV → AV → AV → AV → AV → List AObj → Eff → KR) (z2 z1 z0 : Cont) : codeK G 106 hp0.length K p_r08_Tokens L c_r08_Tokens_j5 (fun e hp ef => kn (e 0).rd (e 5).val (e 6).rd (e 6).val (e 7).rd (e 8).rd hp ef) (retK p_r08_Tokens a_r08_Tokens hp0) [(2, z2), (1, z1), (0, z0)] = fun e hp ef => d_r08_Tokens_j5 G K L hp0 kn (e 0).rd (e 5).val (e 6).rd (e 6).val (e 8).rd (e 9).rd (e 10).rd hp ef := by
  kernel_rfl
def d_r08_Tokens_j4 (G : Nat → Option (List AV)) (K : FuncId → List AV → List AObj → KR) (L : Nat) (hp0 : List AObj) (kn : AV → AV → AV → AV → AV → AV → List AObj → Eff → KR) (x0 : AV) (y5 : AV) (x6 : AV) (y6 : AV) (x8 : AV) (x9 : AV) (x10 : AV) (hp : List AObj) (ef : Eff) : KR :=
  optK (faVal 1 x10) fun v46 =>
  optK (ldcVal hp v46) fun v47 =>
  opt3 (K F_r08_digits [v47] hp) fun v48 h49 f50 =>
  ifK (AV.ro v48)
  (optK (faVal 1 x10) fun v51 =>
  optK (ldcVal h49 v51) fun v52 =>
  opt3 (K F_r08_Number [v52] h49) fun v53 h54 f55 =>
  optK (extractV (AV.ro v53) 0) fun v56 =>
  optK (extractV (AV.ro v53) 1) fun v57 =>
  optK (unVal .not v57) fun v58 =>
  ifK v58
  (some (finK false hp0 (.tup [(AV.nm (.own 4 [])), (AV.nm y6), (AV.nm (.int .i64 8))]) h54 (afterK hp0.length (afterK hp0.length ef f50) f55)))
  (optK (fill [(.int .i64 0), (.str []), (.int .i64 0), (.int .i64 0)] [(0, 1, AV.nm (.int .i64 2)), (2, 1, AV.nm v56), (3, 1, AV.nm x6)]) fun v59 =>
  opt2 (stV hp0.length 4 x10 (.agg v59) h54 (afterK hp0.length (afterK hp0.length ef f50) f55)) fun h60 f61 =>
  d_r08_Tokens_j5 G K L hp0 kn x0 y5 x6 y6 x8 x9 x10 h60 f61))
  (d_r08_Tokens_j5 G K L hp0 kn x0 y5 x6 y6 x8 x9 x10 h49 (afterK hp0.length ef f50))
theorem d_r08_Tokens_j4_eq (G : Nat → Option (List AV)) (K : FuncId → List AV → List AObj → KR) (L : Nat) (hp0 : List AObj) (kn : AV → AV → AV → AV → AV → AV → List AObj → Eff → KR) (z2 z1 z0 : Cont) : codeK G 106 hp0.length K p_r08_Tokens L c_r08_Tokens_j4 (fun e hp ef => kn (e 0).rd (e 5).val (e 6).rd (e 6).val (e 7).rd (e 8).rd hp ef) (retK p_r08_Tokens a_r08_Tokens hp0) [(2, z2), (1, z1), (0, z0)] = fun e hp ef => d_r08_Tokens_j4 G K L hp0 kn (e 0).rd (e 5).val (e 6).rd (e 6).val (e 8).rd (e 9).rd (e 10).rd hp ef := by
  simp only [c_r08_Tokens_j4, codeK_seq, codeK_block, codeK_scope, codeK_cond]
  rw [d_r08_Tokens_j5_eq G K L hp0 kn _ _ _]
  kernel_rfl
def d_r08_Tokens_j1 (G : Nat → Option (List AV)) (K : FuncId → List AV → List AObj → KR) (L : Nat) (hp0 : List AObj) (kn : AV → AV → AV → AV → AV → AV → List AObj → Eff → KR) (x0 : AV) (y5 : AV) (x6 : AV) (y6 : AV) (x7 : AV) (x8 : AV) (x22 : AV) (x64 : AV) (hp : List AObj) (ef : Eff) : KR :=
  ifK x64
  (optK (binVal .add .prim x8 (.int .i64 1)) fun v13 =>
  kn x0 y5 x6 y6 x7 v13 hp ef)
  (optK (binVal .eql .prim x22 (.int .u8 35)) fun v14 =>
  ifK v14
  (d_r08_Tokens_l2 G K L hp0 kn L x0 y5 x6 y6 x7 x8 hp ef)
  (optK (binVal .eql .prim x22 (.int .u8 10)) fun v23 =>
  ifK v23
  (ifK x7
  (optK (fill [(.int .i64 0), (.str []), (.int .i64 0), (.int .i64 0)] [(0, 1, AV.nm (.int .i64 4)), (3, 1, AV.nm x6)]) fun v26 =>
  opt2 (litV ty_api_Token 4 [(.agg v26)] hp) fun v27 h28 =>
  optK (appV 4 40 y5 (AV.ro v27) h28) fun v29 =>
  d_r08_Tokens_j3 G K L hp0 kn x0 v29 x6 x8 h28 ef)
  (d_r08_Tokens_j3 G K L hp0 kn x0 y5 x6 x8 hp ef))
  (optK (sliceVal .str x0 (some x8) none) fun v30 =>
  opt3 (K F_r08_longest [v30] hp) fun v31 h32 f33 =>
  optK (binVal .add .prim x8 (AV.ro v31)) fun v34 =>
  optK (sliceVal .str x0 (some x8) (some v34)) fun v35 =>
  optK (fill [(.int .i64 0), (.str []), (.int .i64 0), (.int .i64 0)] [(0, 1, AV.nm (.int .i64 3)), (1, 1, AV.nm v35), (3, 1, AV.nm x6)]) fun v36 =>
  letK (h32 ++ [.cells [(.int .i64 0), (.str []), (.int .i64 0), (.int .i64 0)] ty_api_Token]) fun h37 =>
  opt2 (stV hp0.length 4 (.ptr (h32).length 0) (.agg v36) h37 (afterK hp0.length ef f33)) fun h38 f39 =>
  optK (faVal 1 (.ptr (h32).length 0)) fun v62 =>
  optK (ldcVal h38 v62) fun v63 =>
  opt3 (K F_r08_Word [v63] h38) fun v64 h65 f66 =>
  ifK (AV.ro v64)
  (optK (faVal 0 (.ptr (h32).length 0)) fun v67 =>
  opt2 (stV hp0.length 1 v67 (.int .i64 1) h65 (afterK hp0.length f39 f66)) fun h68 f69 =>
  d_r08_Tokens_j4 G K L hp0 kn x0 y5 x6 y6 x8 (AV.ro v31) (.ptr (h32).length 0) h68 f69)
  (d_r08_Tokens_j4 G K L hp0 kn x0 y5 x6 y6 x8 (AV.ro v31) (.ptr (h32).length 0) h65 (afterK hp0.length f39 f66)))))
theorem d_r08_Tokens_j1_eq (G : Nat → Option (List AV)) (K : FuncId → List AV → List AObj → KR) (L : Nat) (hp0 : List AObj) (kn : AV → AV → AV → AV → AV → AV → List AObj → Eff → KR) (z2 z1 z0 : Cont) : codeK G 106 hp0.length K p_r08_Tokens L c_r08_Tokens_j1 (fun e hp ef => kn (e 0).rd (e 5).val (e 6).rd (e 6).val (e 7).rd (e 8).rd hp ef) (retK p_r08_Tokens a_r08_Tokens hp0) [(2, z2), (1, z1), (0, z0)] = fun e hp ef => d_r08_Tokens_j1 G K L hp0 kn (e 0).rd (e 5).val (e 6).rd (e 6).val (e 7).rd (e 8).rd (e 22).rd (e 64).rd hp ef := by
  simp only [c_r08_Tokens_j1, codeK_seq, codeK_block, codeK_scope, codeK_cond]
  rw [d_r08_Tokens_l2_eq G K L hp0 kn _ _ _ _, d_r08_Tokens_j3_eq G K L hp0 kn _ _ _, d_r08_Tokens_j4_eq G K L hp0 kn _ _ _]
  kernel_rfl
def d_r08_Tokens_l0 (G : Nat → Option (List AV)) (K : FuncId → List AV → List AObj → KR) (L : Nat) (hp0 : List AObj) (k0 : AV → AV → AV → List AObj → Eff → KR) : Nat → AV → AV → AV → AV → AV → AV → List AObj → Eff → KR
  | 0, _, _, _, _, _, _, _, _ => none
  | m + 1, x0, y5, x6, y6, x7, x8, hp, ef =>
    optK (lenVal hp .str x0) fun v10 =>
    optK (binVal .lss .prim x8 v10) fun v11 =>
    ifK v11
    (optK (idxVal x0 x8) fun v12 =>
    optK (binVal .eql .prim v12 (.int .u8 32)) fun v70 =>
    ifK v70
    (d_r08_Tokens_j1 G K L hp0 (d_r08_Tokens_l0 G K L hp0 k0 m) x0 y5 x6 y6 x7 x8 v12 v70 hp ef)
    (optK (binVal .eql .prim v12 (.int .u8 9)) fun v71 =>
    d_r08_Tokens_j1 G K L hp0 (d_r08_Tokens_l0 G K L hp0 k0 m) x0 y5 x6 y6 x7 x8 v12 v71 hp ef))
    (k0 y5 x6 x7 hp ef)
theorem d_r08_Tokens_l0_lp (G : Nat → Option (List AV)) (K : FuncId → List AV → List AObj → KR) (L : Nat) (hp0 : List AObj) (k0 : AV → AV → AV → List AObj → Eff → KR)  : ∀ m, loopK (fun n' => codeK G 106 hp0.length K p_r08_Tokens L c_r08_Tokens_l0b n' (retK p_r08_Tokens a_r08_Tokens hp0) [(0, (fun e hp ef => k0 (e 5).val (e 6).rd (e 7).rd hp ef))]) m = fun e hp ef => d_r08_Tokens_l0 G K L hp0 k0 m (e 0).rd (e 5).val (e 6).rd (e 6).val (e 7).rd (e 8).rd hp ef := by
  intro m
  induction m with
  | zero => rfl
  | succ m ih =>
    show codeK G 106 hp0.length K p_r08_Tokens L c_r08_Tokens_l0b (loopK _ m) (retK p_r08_Tokens a_r08_Tokens hp0) [(0, (fun e hp ef => k0 (e 5).val (e 6).rd (e 7).rd hp ef))] = _
    rw [ih]
    simp only [c_r08_Tokens_l0b, codeK_seq, codeK_block, codeK_scope, codeK_cond]
    rw [d_r08_Tokens_j1_eq G K L hp0 (d_r08_Tokens_l0 G K L hp0 k0 m) _ _ _]
    kernel_rfl
theorem d_r08_Tokens_l0_eq (G : Nat → Option (List AV)) (K : FuncId → List AV → List AObj → KR) (L : Nat) (hp0 : List AObj) (k0 : AV → AV → AV → List AObj → Eff → KR)  (zn : Cont) : codeK G 106 hp0.length K p_r08_Tokens L c_r08_Tokens_l0 zn (retK p_r08_Tokens a_r08_Tokens hp0) [(0, (fun e hp ef => k0 (e 5).val (e 6).rd (e 7).rd hp ef))] = fun e hp ef => d_r08_Tokens_l0 G K L hp0 k0 L (e 0).rd (e 5).val (e 6).rd (e 6).val (e 7).rd (e 8).rd hp ef := d_r08_Tokens_l0_lp G K L hp0 k0  L
def d_r08_Tokens (G : Nat → Option (List AV)) (K : FuncId → List AV → List AObj → KR) (L : Nat) (x0 : AV) (hp0 : List AObj) : KR :=
  optK (lenVal hp0 .str (AV.ro x0)) fun v0 =>
  optK (binVal .gtr .prim v0 (.int .i64 20000)) fun v1 =>
  ifK v1
  (some (finK false hp0 (.tup [(AV.nm (.own 4 [])), (AV.nm (.int .i64 0)), (AV.nm (.int .i64 6))]) hp0 none))
  (d_r08_Tokens_l0 G K L hp0 (d_r08_Tokens_j6 G K L hp0 ) L (AV.ro x0) (.own 4 []) (.int .i64 1) (.int .i64 1) (.bool false) (.int .i64 0) hp0 none)
theorem d_r08_Tokens_eq (G : Nat → Option (List AV)) (K : FuncId → List AV → List AObj → KR) (L : Nat) (x0 : AV) (hp0 : List AObj) : fnK G K p_r08_Tokens L a_r08_Tokens [x0] hp0 = d_r08_Tokens G K L x0 hp0 := by
  show codeK G 106 hp0.length K p_r08_Tokens L c_r08_Tokens (retK p_r08_Tokens a_r08_Tokens hp0) (retK p_r08_Tokens a_r08_Tokens hp0) [] (argE [x0]) hp0 none = _
  simp only [c_r08_Tokens, codeK_seq, codeK_block, codeK_scope, codeK_cond]
  rw [d_r08_Tokens_j6_eq G K L hp0  , d_r08_Tokens_l0_eq G K L hp0 (d_r08_Tokens_j6 G K L hp0 )  _]
  kernel_rfl
theorem r08_Tokens_run {C : Cfg} (h : C.T F_r08_Tokens = some a_r08_Tokens) {n : Nat} {x0 : AV} {hp : List AObj} {r : AV × List AObj × Eff} (hr : d_r08_Tokens C.G (evalCall C n) C.L x0 hp = some r) : evalCall C (n + 1) F_r08_Tokens [x0] hp = some r := fnK_ok h (Nat.le_of_ble_eq_true rfl) ((d_r08_Tokens_eq ..).trans hr)
def d_r08_Same_j1 (G : Nat → Option (List AV)) (K : FuncId → List AV → List AObj → KR) (L : Nat) (hp0 : List AObj)   (hp : List AObj) (ef : Eff) : KR :=
  some (finK false hp0 (.bool true) hp ef)
theorem d_r08_Same_j1_eq (G : Nat → Option (List AV)) (K : FuncId → List AV → List AObj → KR) (L : Nat) (hp0 : List AObj)   : codeK G 26 hp0.length K p_r08_Same L c_r08_Same_j1 (retK p_r08_Same a_r08_Same hp0) (retK p_r08_Same a_r08_Same hp0) [] = fun e hp ef => d_r08_Same_j1 G K L hp0   hp ef := by
  kernel_rfl
def d_r08_Same_l0 (G : Nat → Option (List AV)) (K : FuncId → List AV → List AObj → KR) (L : Nat) (hp0 : List AObj) (k0 : List AObj → Eff → KR) : Nat → AV → AV → AV → List AObj → Eff → KR
  | 0, _, _, _, _, _ => none
  | m + 1, x0, x1, x5, hp, ef =>
    optK (lenVal hp .slice x0) fun v3 =>
    optK (binVal .lss .prim x5 v3) fun v4 =>
    ifK v4
    (optK (iaVal (.slice 4) x0 x5) fun v5 =>
    optK (ldaVal hp 4 v5) fun v6 =>
    optK (iaVal (.slice 4) x1 x5) fun v7 =>
    optK (ldaVal hp 4 v7) fun v8 =>
    optK (binVal .neq (.struct [.int, .str, .int, .int]) v6 v8) fun v9 =>
    ifK v9
    (some (finK false hp0 (.bool false) hp ef))
    (optK (binVal .add .prim x5 (.int .i64 1)) fun v10 =>
    d_r08_Same_l0 G K L hp0 k0 m x0 x1 v10 hp ef))
    (k0  hp ef)
theorem d_r08_Same_l0_lp (G : Nat → Option (List AV)) (K : FuncId → List AV → List AObj → KR) (L : Nat) (hp0 : List AObj) (k0 : List AObj → Eff → KR)  : ∀ m, loopK (fun n' => codeK G 26 hp0.length K p_r08_Same L c_r08_Same_l0b n' (retK p_r08_Same a_r08_Same hp0) [(0, (fun e hp ef => k0  hp ef))]) m = fun e hp ef => d_r08_Same_l0 G K L hp0 k0 m (e 0).rd (e 1).rd (e 5).rd hp ef := by
  intro m
  induction m with
  | zero => rfl
  | succ m ih =>
    show codeK G 26 hp0.length K p_r08_Same L c_r08_Same_l0b (loopK _ m) (retK p_r08_Same a_r08_Same hp0) [(0, (fun e hp ef => k0  hp ef))] = _
    rw [ih]
    kernel_rfl
theorem d_r08_Same_l0_eq (G : Nat → Option (List AV)) (K : FuncId → List AV → List AObj → KR) (L : Nat) (hp0 : List AObj) (k0 : List AObj → Eff → KR)  (zn : Cont) : codeK G 26 hp0.length K p_r08_Same L c_r08_Same_l0 zn (retK p_r08_Same a_r08_Same hp0) [(0, (fun e hp ef => k0  hp ef))] = fun e hp ef => d_r08_Same_l0 G K L hp0 k0 L (e 0).rd (e 1).rd (e 5).rd hp ef := d_r08_Same_l0_lp G K L hp0 k0  L
def d_r08_Same (G : Nat → Option (List AV)) (K : FuncId → List AV → List AObj → KR) (L : Nat) (x0 x1 : AV) (hp0 : List AObj) : KR :=
  optK (lenVal hp0 .slice (AV.ro x0)) fun v0 =>
  optK (lenVal hp0 .slice (AV.ro x1)) fun v1 =>
  optK (binVal .neq .prim v0 v1) fun v2 =>
  ifK v2
  (some (finK false hp0 (.bool false) hp0 none))
  (d_r08_Same_l0 G K L hp0 (d_r08_Same_j1 G K L hp0 ) L (AV.ro x0) (AV.ro x1) (.int .i64 0) hp0 none)
theorem d_r08_Same_eq (G : Nat → Option (List AV)) (K : FuncId → List AV → List AObj → KR) (L : Nat) (x0 x1 : AV) (hp0 : List AObj) : fnK G K p_r08_Same L a_r08_Same [x0, x1] hp0 = d_r08_Same G K L x0 x1 hp0 := by
  show codeK G 26 hp0.length K p_r08_Same L c_r08_Same (retK p_r08_Same a_r08_Same hp0) (retK p_r08_Same a_r08_Same hp0) [] (argE [x0, x1]) hp0 none = _
  simp only [c_r08_Same, codeK_seq, codeK_block, codeK_scope, codeK_cond]
  rw [d_r08_Same_j1_eq G K L hp0  , d_r08_Same_l0_eq G K L hp0 (d_r08_Same_j1 G K L hp0 )  _]
  kernel_rfl
theorem r08_Same_run {C : Cfg} (h : C.T F_r08_Same = some a_r08_Same) {n : Nat} {x0 x1 : AV} {hp : List AObj} {r : AV × List AObj × Eff} (hr : d_r08_Same C.G (evalCall C n) C.L x0 x1 hp = some r) : evalCall C (n + 1) F_r08_Same [x0, x1] hp = some r := fnK_ok h (Nat.le_of_ble_eq_true rfl) ((d_r08_Same_eq ..).trans hr)
def d_r08_Text_j6 (G : Nat → Option (List AV)) (K : FuncId → List AV → List AObj → KR) (L : Nat) (hp0 : List AObj)  (y5 : AV) (hp : List AObj) (ef : Eff) : KR :=
  some (finK false hp0 (.tup [(AV.nm y5), (AV.nm (.int .i64 0))]) hp ef)
theorem d_r08_Text_j6_eq (G : Nat → Option (List AV)) (K : FuncId → List AV → List AObj → KR) (L : Nat) (hp0 : List AObj)   : codeK G 97 hp0.length K p_r08_Text L c_r08_Text_j6 (retK p_r08_Text a_r08_Text hp0) (retK p_r08_Text a_r08_Text hp0) [] = fun e hp ef => d_r08_Text_j6 G K L hp0  (e 5).val hp ef := by
  kernel_rfl
def d_r08_Text_j5 (G : Nat → Option (List AV)) (K : FuncId → List AV → List AObj → KR) (L : Nat) (hp0 : List AObj) (kn : AV → AV → AV → AV → AV → List AObj → Eff → KR) (x0 : AV) (x5 : AV) (y5 : AV) (x6 : AV) (x7 : AV) (hp : List AObj) (ef : Eff) : KR :=
  optK (binVal .add .prim x7 (.int .i64 1)) fun v12 =>
  kn x0 x5 y5 x6 v12 hp ef
theorem d_r08_Text_j5_eq (G : Nat → Option (List AV)) (K : FuncId → List AV → List AObj → KR) (L : Nat) (hp0 : List AObj) (kn : AV → AV → AV → AV → AV → List AObj → Eff → KR) (z0 : Cont) : codeK G 97 hp0.length K p_r08_Text L c_r08_Text_j5 (fun e hp ef => kn (e 0).rd (e 5).rd (e 5).val (e 6).rd (e 7).rd hp ef) (retK p_r08_Text a_r08_Text hp0) [(0, z0)] = fun e hp ef => d_r08_Text_j5 G K L hp0 kn (e 0).rd (e 5).rd (e 5).val (e 6).rd (e 7).rd hp ef := by
  kernel_rfl
def d_r08_Text_j4 (G : Nat → Option (List AV)) (K : FuncId → List AV → List AObj → KR) (L : Nat) (hp0 : List AObj) (kn : AV → AV → AV → AV → AV → List AObj → Eff → KR) (x0 : AV) (x5 : AV) (x6 : AV) (x7 : AV) (x8 : AV) (hp : List AObj) (ef : Eff) : KR :=
  optK (binVal .add .prim x5 x8) fun v16 =>
  optK (lenVal hp .str v16) fun v17 =>
  optK (binVal .gtr .prim v17 (.int .i64 20000)) fun v18 =>
  ifK v18
  (some (finK false hp0 (.tup [(AV.nm (.str [])), (AV.nm (.int .i64 6))]) hp ef))
  (kn x0 v16 v16 x6 x7 hp ef)
theorem d_r08_Text_j4_eq (G : Nat → Option (List AV)) (K : FuncId → List AV → List AObj → KR) (L : Nat) (hp0 : List AObj) (kn : AV → AV → AV → AV → AV → List AObj → Eff → KR) (z1 z0 : Cont) : codeK G 97 hp0.length K p_r08_Text L c_r08_Text_j4 (fun e hp ef => kn (e 0).rd (e 5).rd (e 5).val (e 6).rd (e 7).rd hp ef) (retK p_r08_Text a_r08_Text hp0) [(1, z1), (0, z0)] = fun e hp ef => d_r08_Text_j4 G K L hp0 kn (e 0).rd (e 5).rd (e 6).rd (e 7).rd (e 8).rd hp ef := by
  kernel_rfl
def d_r08_Text_j3 (G : Nat → Option (List AV)) (K : FuncId → List AV → List AObj → KR) (L : Nat) (hp0 : List AObj) (kn : AV → AV → AV → AV → AV → List AObj → Eff → KR) (x0 : AV) (x5 : AV) (x6 : AV) (x7 : AV) (x8 : AV) (hp : List AObj) (ef : Eff) : KR :=
  optK (binVal .gtr .prim x7 (.int .i64 0)) fun v19 =>
  grpK v19 true
  (optK (iaVal (.slice 4) x0 x7) fun v20 =>
  optK (faVal 0 v20) fun v21 =>
  optK (ldcVal hp v21) fun v22 =>
  optK (binVal .neq .prim v22 (.int .i64 4)) fun v23 =>
  some (v23, hp, ef))
  (some (.bool false)) hp ef fun v24 h25 f26 =>
  grpK (AV.ro v24) true
  (optK (iaVal (.slice 4) x0 x7) fun v27 =>
  optK (faVal 0 v27) fun v28 =>
  optK (ldcVal h25 v28) fun v29 =>
  optK (binVal .neq .prim v29 (.int .i64 0)) fun v30 =>
  some (v30, h25, f26))
  (some (.bool false)) h25 f26 fun v31 h32 f33 =>
  grpK (AV.ro v31) true
  (optK (binVal .sub .prim x7 (.int .i64 1)) fun v34 =>
  optK (iaVal (.slice 4) x0 v34) fun v35 =>
  optK (faVal 3 v35) fun v36 =>
  optK (ldcVal h32 v36) fun v37 =>
  optK (iaVal (.slice 4) x0 x7) fun v38 =>
  optK (faVal 3 v38) fun v39 =>
  optK (ldcVal h32 v39) fun v40 =>
  optK (binVal .eql .prim v37 v40) fun v41 =>
  some (v41, h32, f33))
  (some (.bool false)) h32 f33 fun v42 h43 f44 =>
  ifK (AV.ro v42)
  (optK (binVal .add .prim x5 (.str [32])) fun v45 =>
  d_r08_Text_j4 G K L hp0 kn x0 v45 x6 x7 x8 h43 f44)
  (d_r08_Text_j4 G K L hp0 kn x0 x5 x6 x7 x8 h43 f44)
theorem d_r08_Text_j3_eq (G : Nat → Option (List AV)) (K : FuncId → List AV → List AObj → KR) (L : Nat) (hp0 : List AObj) (kn : AV → AV → AV → AV → AV → List AObj → Eff → KR) (z1 z0 : Cont) : codeK G 97 hp0.length K p_r08_Text L c_r08_Text_j3 (fun e hp ef => kn (e 0).rd (e 5).rd (e 5).val (e 6).rd (e 7).rd hp ef) (retK p_r08_Text a_r08_Text hp0) [(1, z1), (0, z0)] = fun e hp ef => d_r08_Text_j3 G K L hp0 kn (e 0).rd (e 5).rd (e 6).rd (e 7).rd (e 8).rd hp ef := by
  simp only [c_r08_Text_j3, codeK_seq, codeK_block, codeK_scope, codeK_cond]
  rw [d_r08_Text_j4_eq G K L hp0 kn _ _]
  kernel_rfl
def d_r08_Text_j2 (G : Nat → Option (List AV)) (K : FuncId → List AV → List AObj → KR) (L : Nat) (hp0 : List AObj) (kn : AV → AV → AV → AV → AV → List AObj → Eff → KR) (x0 : AV) (x5 : AV) (x6 : AV) (x7 : AV) (hp : List AObj) (ef : Eff) : KR :=
  optK (iaVal (.slice 4) x0 x7) fun v13 =>
  optK (faVal 1 v13) fun v14 =>
  optK (ldcVal hp v14) fun v15 =>
  optK (iaVal (.slice 4) x0 x7) fun v46 =>
  optK (faVal 0 v46) fun v47 =>
  optK (ldcVal hp v47) fun v48 =>
  optK (binVal .eql .prim v48 (.int .i64 2)) fun v49 =>
  ifK v49
  (optK (iaVal (.slice 4) x0 x7) fun v50 =>
  optK (faVal 2 v50) fun v51 =>
  optK (ldcVal hp v51) fun v52 =>
  opt3 (K F_r01_Text [v52] hp) fun v53 h54 f55 =>
  d_r08_Text_j3 G K L hp0 kn x0 x5 x6 x7 (AV.ro v53) h54 (afterK hp0.length ef f55))
  (d_r08_Text_j3 G K L hp0 kn x0 x5 x6 x7 v15 hp ef)
theorem d_r08_Text_j2_eq (G : Nat → Option (List AV)) (K : FuncId → List AV → List AObj → KR) (L : Nat) (hp0 : List AObj) (kn : AV → AV → AV → AV → AV → List AObj → Eff → KR) (z1 z0 : Cont) : codeK G 97 hp0.length K p_r08_Text L c_r08_Text_j2 (fun e hp ef => kn (e 0).rd (e 5).rd (e 5).val (e 6).rd (e 7).rd hp ef) (retK p_r08_Text a_r08_Text hp0) [(1, z1), (0, z0)] = fun e hp ef => d_r08_Text_j2 G K L hp0 kn (e 0).rd (e 5).rd (e 6).rd (e 7).rd hp ef := by
  simp only [c_r08_Text_j2, codeK_seq, codeK_block, codeK_scope, codeK_cond]
  rw [d_r08_Text_j3_eq G K L hp0 kn _ _]
  kernel_rfl
def d_r08_Text_l1 (G : Nat → Option (List AV)) (K : FuncId → List AV → List AObj → KR) (L : Nat) (hp0 : List AObj) (k2 : AV → AV → AV → AV → List AObj → Eff → KR) : Nat → AV → AV → AV → AV → List AObj → Eff → KR
  | 0, _, _, _, _, _, _ => none
  | m + 1, x0, x5, x6, x7, hp, ef =>
    optK (iaVal (.slice 4) x0 x7) fun v56 =>
    optK (faVal 3 v56) fun v57 =>
    optK (ldcVal hp v57) fun v58 =>
    optK (binVal .lss .prim x6 v58) fun v59 =>
    ifK v59
    (optK (binVal .add .prim x5 (.str [10])) fun v60 =>
    optK (binVal .add .prim x6 (.int .i64 1)) fun v61 =>
    d_r08_Text_l1 G K L hp0 k2 m x0 v60 v61 x7 hp ef)
    (k2 x0 x5 x6 x7 hp ef)
theorem d_r08_Text_l1_lp (G : Nat → Option (List AV)) (K : FuncId → List AV → List AObj → KR) (L : Nat) (hp0 : List AObj) (k2 : AV → AV → AV → AV → List AObj → Eff → KR) (z1 z0 : Cont) : ∀ m, loopK (fun n' => codeK G 97 hp0.length K p_r08_Text L c_r08_Text_l1b n' (retK p_r08_Text a_r08_Text hp0) [(2, (fun e hp ef => k2 (e 0).rd (e 5).rd (e 6).rd (e 7).rd hp ef)), (1, z1), (0, z0)]) m = fun e hp ef => d_r08_Text_l1 G K L hp0 k2 m (e 0).rd (e 5).rd (e 6).rd (e 7).rd hp ef := by
  intro m
  induction m with
  | zero => rfl
  | succ m ih =>
    show codeK G 97 hp0.length K p_r08_Text L c_r08_Text_l1b (loopK _ m) (retK p_r08_Text a_r08_Text hp0) [(2, (fun e hp ef => k2 (e 0).rd (e 5).rd (e 6).rd (e 7).rd hp ef)), (1, z1), (0, z0)] = _
    rw [ih]
    kernel_rfl
theorem d_r08_Text_l1_eq (G : Nat → Option (List AV)) (K : FuncId → List AV → List AObj → KR) (L : Nat) (hp0 : List AObj) (k2 : AV → AV → AV → AV → List AObj → Eff → KR) (z1 z0 : Cont) (zn : Cont) : codeK G 97 hp0.length K p_r08_Text L c_r08_Text_l1 zn (retK p_r08_Text a_r08_Text hp0) [(2, (fun e hp ef => k2 (e 0).rd (e 5).rd (e 6).rd (e 7).rd hp ef)), (1, z1), (0, z0)] = fun e hp ef => d_r08_Text_l1 G K L hp0 k2 L (e 0).rd (e 5).rd (e 6).rd (e 7).rd hp ef := d_r08_Text_l1_lp G K L hp0 k2 z1 z0 L
def d_r08_Text_l0 (G : Nat → Option (List AV)) (K : FuncId → List AV → List AObj → KR) (L : Nat) (hp0 : List AObj) (k0 : AV → List AObj → Eff → KR) : Nat → AV → AV → AV → AV → AV → List AObj → Eff → KR
  | 0, _, _, _, _, _, _, _ => none
  | m + 1, x0, x5, y5, x6, x7, hp, ef =>
    optK (lenVal hp .slice x0) fun v10 =>
    optK (binVal .lss .prim x7 v10) fun v11 =>
    ifK v11
    (d_r08_Text_l1 G K L hp0 (d_r08_Text_j2 G K L hp0 (d_r08_Text_j5 G K L hp0 (d_r08_Text_l0 G K L hp0 k0 m))) L x0 x5 x6 x7 hp ef)
    (k0 y5 hp ef)
theorem d_r08_Text_l0_lp (G : Nat → Option (List AV)) (K : FuncId → List AV → List AObj → KR) (L : Nat) (hp0 : List AObj) (k0 : AV → List AObj → Eff → KR)  : ∀ m, loopK (fun n' => codeK G 97 hp0.length K p_r08_Text L c_r08_Text_l0b n' (retK p_r08_Text a_r08_Text hp0) [(0, (fun e hp ef => k0 (e 5).val hp ef))]) m = fun e hp ef => d_r08_Text_l0 G K L hp0 k0 m (e 0).rd (e 5).rd (e 5).val (e 6).rd (e 7).rd hp ef := by
  intro m
  induction m with
  | zero => rfl
  | succ m ih =>
    show codeK G 97 hp0.length K p_r08_Text L c_r08_Text_l0b (loopK _ m) (retK p_r08_Text a_r08_Text hp0) [(0, (fun e hp ef => k0 (e 5).val hp ef))] = _
    rw [ih]
    simp only [c_r08_Text_l0b, codeK_seq, codeK_block, codeK_scope, codeK_cond]
    rw [d_r08_Text_j5_eq G K L hp0 (d_r08_Text_l0 G K L hp0 k0 m) _, d_r08_Text_j2_eq G K L hp0 (d_r08_Text_j5 G K L hp0 (d_r08_Text_l0 G K L hp0 k0 m)) _ _, d_r08_Text_l1_eq G K L hp0 (d_r08_Text_j2 G K L hp0 (d_r08_Text_j5 G K L hp0 (d_r08_Text_l0 G K L hp0 k0 m))) _ _ _]
    kernel_rfl
theorem d_r08_Text_l0_eq (G : Nat → Option (List AV)) (K : FuncId → List AV → List AObj → KR) (L : Nat) (hp0 : List AObj) (k0 : AV → List AObj → Eff → KR)  (zn : Cont) : codeK G 97 hp0.length K p_r08_Text L c_r08_Text_l0 zn (retK p_r08_Text a_r08_Text hp0) [(0, (fun e hp ef => k0 (e 5).val hp ef))] = fun e hp ef => d_r08_Text_l0 G K L hp0 k0 L (e 0).rd (e 5).rd (e 5).val (e 6).rd (e 7).rd hp ef := d_r08_Text_l0_lp G K L hp0 k0  L
def d_r08_Text (G : Nat → Option (List AV)) (K : FuncId → List AV → List AObj → KR) (L : Nat) (x0 : AV) (hp0 : List AObj) : KR :=
  opt3 (K F_r08_Check [(AV.ro x0)] hp0) fun v0 h1 f2 =>
  optK (binVal .neq .prim (AV.ro v0) (.int .i64 0)) fun v3 =>
  ifK v3
  (some (finK false hp0 (.tup [(AV.nm (.str [])), (AV.nm v0)]) h1 (afterK hp0.length none f2)))
  (optK (lenVal h1 .slice (AV.ro x0)) fun v4 =>
  optK (binVal .sub .prim v4 (.int .i64 1)) fun v5 =>
  optK (iaVal (.slice 4) (AV.ro x0) v5) fun v6 =>
  optK (faVal 3 v6) fun v7 =>
  optK (ldcVal h1 v7) fun v8 =>
  optK (binVal .gtr .prim v8 (.int .i64 20001)) fun v9 =>
  ifK v9
  (some (finK false hp0 (.tup [(AV.nm (.str [])), (AV.nm (.int .i64 6))]) h1 (afterK hp0.length none f2)))
  (d_r08_Text_l0 G K L hp0 (d_r08_Text_j6 G K L hp0 ) L (AV.ro x0) (.str []) (.str []) (.int .i64 1) (.int .i64 0) h1 (afterK hp0.length none f2)))
theorem d_r08_Text_eq (G : Nat → Option (List AV)) (K : FuncId → List AV → List AObj → KR) (L : Nat) (x0 : AV) (hp0 : List AObj) : fnK G K p_r08_Text L a_r08_Text [x0] hp0 = d_r08_Text G K L x0 hp0 := by
  show codeK G 97 hp0.length K p_r08_Text L c_r08_Text (retK p_r08_Text a_r08_Text hp0) (retK p_r08_Text a_r08_Text hp0) [] (argE [x0]) hp0 none = _
  simp only [c_r08_Text, codeK_seq, codeK_block, codeK_scope, codeK_cond]
  rw [d_r08_Text_j6_eq G K L hp0  , d_r08_Text_l0_eq G K L hp0 (d_r08_Text_j6 G K L hp0 )  _]
  kernel_rfl
theorem r08_Text_run {C : Cfg} (h : C.T F_r08_Text = some a_r08_Text) {n : Nat} {x0 : AV} {hp : List AObj} {r : AV × List AObj × Eff} (hr : d_r08_Text C.G (evalCall C n) C.L x0 hp = some r) : evalCall C (n + 1) F_r08_Text [x0] hp = some r := fnK_ok h (Nat.le_of_ble_eq_true rfl) ((d_r08_Text_eq ..).trans hr)
def d_r08_Check_j1 (G : Nat → Option (List AV)) (K : FuncId → List AV → List AObj → KR) (L : Nat) (hp0 : List AObj)  (x3 : AV) (hp : List AObj) (ef : Eff) : KR :=
  optK (faVal 0 x3) fun v4 =>
  optK (ldcVal hp v4) fun v5 =>
  optK (binVal .neq .prim v5 (.int .i64 0)) fun v6 =>
  ifK v6
  (some (finK false hp0 (.int .i64 8) hp ef))
  (some (finK false hp0 (.int .i64 0) hp ef))
theorem d_r08_Check_j1_eq (G : Nat → Option (List AV)) (K : FuncId → List AV → List AObj → KR) (L : Nat) (hp0 : List AObj)   : codeK G 96 hp0.length K p_r08_Check L c_r08_Check_j1 (retK p_r08_Check a_r08_Check hp0) (retK p_r08_Check a_r08_Check hp0) [] = fun e hp ef => d_r08_Check_j1 G K L hp0  (e 3).rd hp ef := by
  kernel_rfl
def d_r08_Check_l0 (G : Nat → Option (List AV)) (K : FuncId → List AV → List AObj → KR) (L : Nat) (hp0 : List AObj) (k0 : AV → List AObj → Eff → KR) : Nat → AV → AV → AV → List AObj → Eff → KR
  | 0, _, _, _, _, _ => none
  | m + 1, x0, x3, x4, hp, ef =>
    optK (lenVal hp .slice x0) fun v7 =>
    optK (binVal .lss .prim x4 v7) fun v8 =>
    ifK v8
    (optK (iaVal (.slice 4) x0 x4) fun v9 =>
    optK (ldaVal hp 4 v9) fun v10 =>
    letK (hp ++ [.cells [(.int .i64 0), (.str []), (.int .i64 0), (.int .i64 0)] ty_api_Token]) fun h11 =>
    opt2 (stV hp0.length 4 (.ptr (hp).length 0) v10 h11 ef) fun h12 f13 =>
    optK (faVal 0 (.ptr (hp).length 0)) fun v14 =>
    optK (ldcVal h12 v14) fun v15 =>
    optK (binVal .lss .prim v15 (.int .i64 0)) fun v16 =>
    grpK v16 false
    (optK (faVal 0 (.ptr (hp).length 0)) fun v17 =>
    optK (ldcVal h12 v17) fun v18 =>
    optK (binVal .gtr .prim v18 (.int .i64 4)) fun v19 =>
    some (v19, h12, f13))
    (some (.bool true)) h12 f13 fun v20 h21 f22 =>
    ifK (AV.ro v20)
    (some (finK false hp0 (.int .i64 1) h21 f22))
    (optK (ldaVal h21 4 (.ptr (hp).length 0)) fun v23 =>
    opt3 (K F_r08_formed [v23] h21) fun v24 h25 f26 =>
    optK (unVal .not (AV.ro v24)) fun v27 =>
    grpK v27 false
    (optK (faVal 0 (.ptr (hp).length 0)) fun v28 =>
    optK (ldcVal h25 v28) fun v29 =>
    optK (binVal .eql .prim v29 (.int .i64 4)) fun v30 =>
    grpK v30 true
    (optK (faVal 0 x3) fun v31 =>
    optK (ldcVal h25 v31) fun v32 =>
    optK (binVal .eql .prim v32 (.int .i64 4)) fun v33 =>
    some (v33, h25, (afterK hp0.length f22 f26)))
    (some (.bool false)) h25 (afterK hp0.length f22 f26) fun v34 h35 f36 =>
    some ((AV.ro v34), h35, f36))
    (some (.bool true)) h25 (afterK hp0.length f22 f26) fun v37 h38 f39 =>
    ifK (AV.ro v37)
    (some (finK false hp0 (.int .i64 8) h38 f39))
    (optK (faVal 0 (.ptr (hp).length 0)) fun v40 =>
    optK (ldcVal h38 v40) fun v41 =>
    optK (binVal .eql .prim v41 (.int .i64 0)) fun v42 =>
    grpK v42 true
    (optK (lenVal h38 .slice x0) fun v43 =>
    optK (binVal .sub .prim v43 (.int .i64 1)) fun v44 =>
    optK (binVal .neq .prim x4 v44) fun v45 =>
    grpK v45 false
    (optK (faVal 0 x3) fun v46 =>
    optK (ldcVal h38 v46) fun v47 =>
    optK (binVal .neq .prim v47 (.int .i64 4)) fun v48 =>
    some (v48, h38, f39))
    (some (.bool true)) h38 f39 fun v49 h50 f51 =>
    some ((AV.ro v49), h50, f51))
    (some (.bool false)) h38 f39 fun v52 h53 f54 =>
    ifK (AV.ro v52)
    (some (finK false hp0 (.int .i64 8) h53 f54))
    (optK (faVal 3 (.ptr (hp).length 0)) fun v55 =>
    optK (ldcVal h53 v55) fun v56 =>
    optK (binVal .lss .prim v56 (.int .i64 1)) fun v57 =>
    grpK v57 false
    (optK (faVal 0 x3) fun v58 =>
    optK (ldcVal h53 v58) fun v59 =>
    optK (binVal .neq .prim v59 (.int .i64 4)) fun v60 =>
    grpK v60 true
    (optK (faVal 3 (.ptr (hp).length 0)) fun v61 =>
    optK (ldcVal h53 v61) fun v62 =>
    optK (faVal 3 x3) fun v63 =>
    optK (ldcVal h53 v63) fun v64 =>
    optK (binVal .neq .prim v62 v64) fun v65 =>
    some (v65, h53, f54))
    (some (.bool false)) h53 f54 fun v66 h67 f68 =>
    some ((AV.ro v66), h67, f68))
    (some (.bool true)) h53 f54 fun v69 h70 f71 =>
    grpK (AV.ro v69) false
    (optK (faVal 3 (.ptr (hp).length 0)) fun v72 =>
    optK (ldcVal h70 v72) fun v73 =>
    optK (faVal 3 x3) fun v74 =>
    optK (ldcVal h70 v74) fun v75 =>
    optK (binVal .lss .prim v73 v75) fun v76 =>
    some (v76, h70, f71))
    (some (.bool true)) h70 f71 fun v77 h78 f79 =>
    grpK (AV.ro v77) false
    (optK (faVal 0 x3) fun v80 =>
    optK (ldcVal h78 v80) fun v81 =>
    optK (binVal .eql .prim v81 (.int .i64 4)) fun v82 =>
    grpK v82 true
    (optK (faVal 0 (.ptr (hp).length 0)) fun v83 =>
    optK (ldcVal h78 v83) fun v84 =>
    optK (binVal .neq .prim v84 (.int .i64 0)) fun v85 =>
    some (v85, h78, f79))
    (some (.bool false)) h78 f79 fun v86 h87 f88 =>
    grpK (AV.ro v86) true
    (optK (faVal 3 (.ptr (hp).length 0)) fun v89 =>
    optK (ldcVal h87 v89) fun v90 =>
    optK (faVal 3 x3) fun v91 =>
    optK (ldcVal h87 v91) fun v92 =>
    optK (binVal .eql .prim v90 v92) fun v93 =>
    some (v93, h87, f88))
    (some (.bool false)) h87 f88 fun v94 h95 f96 =>
    some ((AV.ro v94), h95, f96))
    (some (.bool true)) h78 f79 fun v97 h98 f99 =>
    ifK (AV.ro v97)
    (some (finK false hp0 (.int .i64 12) h98 f99))
    (optK (ldaVal h98 4 (.ptr (hp).length 0)) fun v100 =>
    opt2 (stV hp0.length 4 x3 v100 h98 f99) fun h101 f102 =>
    optK (binVal .add .prim x4 (.int .i64 1)) fun v103 =>
    d_r08_Check_l0 G K L hp0 k0 m x0 x3 v103 h101 f102)))))
    (k0 x3 hp ef)
theorem d_r08_Check_l0_lp (G : Nat → Option (List AV)) (K : FuncId → List AV → List AObj → KR) (L : Nat) (hp0 : List AObj) (k0 : AV → List AObj → Eff → KR)  : ∀ m, loopK (fun n' => codeK G 96 hp0.length K p_r08_Check L c_r08_Check_l0b n' (retK p_r08_Check a_r08_Check hp0) [(0, (fun e hp ef => k0 (e 3).rd hp ef))]) m = fun e hp ef => d_r08_Check_l0 G K L hp0 k0 m (e 0).rd (e 3).rd (e 4).rd hp ef := by
  intro m
  induction m with
  | zero => rfl
  | succ m ih =>
    show codeK G 96 hp0.length K p_r08_Check L c_r08_Check_l0b (loopK _ m) (retK p_r08_Check a_r08_Check hp0) [(0, (fun e hp ef => k0 (e 3).rd hp ef))] = _
    rw [ih]
    kernel_rfl
theorem d_r08_Check_l0_eq (G : Nat → Option (List AV)) (K : FuncId → List AV → List AObj → KR) (L : Nat) (hp0 : List AObj) (k0 : AV → List AObj → Eff → KR)  (zn : Cont) : codeK G 96 hp0.length K p_r08_Check L c_r08_Check_l0 zn (retK p_r08_Check a_r08_Check hp0) [(0, (fun e hp ef => k0 (e 3).rd hp ef))] = fun e hp ef => d_r08_Check_l0 G K L hp0 k0 L (e 0).rd (e 3).rd (e 4).rd hp ef := d_r08_Check_l0_lp G K L hp0 k0  L
def d_r08_Check (G : Nat → Option (List AV)) (K : FuncId → List AV → List AObj → KR) (L : Nat) (x0 : AV) (hp0 : List AObj) : KR :=
  optK (fill [(.int .i64 0), (.str []), (.int .i64 0), (.int .i64 0)] [(0, 1, AV.nm (.int .i64 4)), (3, 1, AV.nm (.int .i64 0))]) fun v0 =>
  letK (hp0 ++ [.cells [(.int .i64 0), (.str []), (.int .i64 0), (.int .i64 0)] ty_api_Token]) fun h1 =>
  opt2 (stV hp0.length 4 (.ptr (hp0).length 0) (.agg v0) h1 none) fun h2 f3 =>
  d_r08_Check_l0 G K L hp0 (d_r08_Check_j1 G K L hp0 ) L (AV.ro x0) (.ptr (hp0).length 0) (.int .i64 0) h2 f3
theorem d_r08_Check_eq (G : Nat → Option (List AV)) (K : FuncId → List AV → List AObj → KR) (L : Nat) (x0 : AV) (hp0 : List AObj) : fnK G K p_r08_Check L a_r08_Check [x0] hp0 = d_r08_Check G K L x0 hp0 := by
  show codeK G 96 hp0.length K p_r08_Check L c_r08_Check (retK p_r08_Check a_r08_Check hp0) (retK p_r08_Check a_r08_Check hp0) [] (argE [x0]) hp0 none = _
  simp only [c_r08_Check, codeK_seq, codeK_block, codeK_scope, codeK_cond]
  rw [d_r08_Check_j1_eq G K L hp0  , d_r08_Check_l0_eq G K L hp0 (d_r08_Check_j1 G K L hp0 )  _]
  kernel_rfl
theorem r08_Check_run {C : Cfg} (h : C.T F_r08_Check = some a_r08_Check) {n : Nat} {x0 : AV} {hp : List AObj} {r : AV × List AObj × Eff} (hr : d_r08_Check C.G (evalCall C n) C.L x0 hp = some r) : evalCall C (n + 1) F_r08_Check [x0] hp = some r := fnK_ok h (Nat.le_of_ble_eq_true rfl) ((d_r08_Check_eq ..).trans hr)
def d_r08_Lines_j1 (G : Nat → Option (List AV)) (K : FuncId → List AV → List AObj → KR) (L : Nat) (hp0 : List AObj)  (x0 : AV) (y3 : AV) (hp : List AObj) (ef : Eff) : KR :=
  opt3 (K F_r08_Check [x0] hp) fun v0 h1 f2 =>
  optK (binVal .neq .prim (AV.ro v0) (.int .i64 0)) fun v3 =>
  ifK v3
  (some (finK false hp0 (.int .i64 0) h1 (afterK hp0.length ef f2)))
  (some (finK false hp0 y3 h1 (afterK hp0.length ef f2)))
theorem d_r08_Lines_j1_eq (G : Nat → Option (List AV)) (K : FuncId → List AV → List AObj → KR) (L : Nat) (hp0 : List AObj)   : codeK G 23 hp0.length K p_r08_Lines L c_r08_Lines_j1 (retK p_r08_Lines a_r08_Lines hp0) (retK p_r08_Lines a_r08_Lines hp0) [] = fun e hp ef => d_r08_Lines_j1 G K L hp0  (e 0).rd (e 3).val hp ef := by
  kernel_rfl
def d_r08_Lines_l0 (G : Nat → Option (List AV)) (K : FuncId → List AV → List AObj → KR) (L : Nat) (hp0 : List AObj) (k0 : AV → AV → List AObj → Eff → KR) : Nat → AV → AV → AV → AV → List AObj → Eff → KR
  | 0, _, _, _, _, _, _ => none
  | m + 1, x0, x3, y3, x4, hp, ef =>
    optK (lenVal hp .slice x0) fun v4 =>
    optK (binVal .lss .prim x4 v4) fun v5 =>
    ifK v5
    (optK (iaVal (.slice 4) x0 x4) fun v6 =>
    optK (faVal 0 v6) fun v7 =>
    optK (ldcVal hp v7) fun v8 =>
    optK (binVal .eql .prim v8 (.int .i64 4)) fun v9 =>
    ifK v9
    (optK (binVal .add .prim x3 (.int .i64 1)) fun v10 =>
    optK (binVal .add .prim x4 (.int .i64 1)) fun v11 =>
    d_r08_Lines_l0 G K L hp0 k0 m x0 v10 v10 v11 hp ef)
    (optK (binVal .add .prim x4 (.int .i64 1)) fun v12 =>
    d_r08_Lines_l0 G K L hp0 k0 m x0 x3 y3 v12 hp ef))
    (k0 x0 y3 hp ef)
theorem d_r08_Lines_l0_lp (G : Nat → Option (List AV)) (K : FuncId → List AV → List AObj → KR) (L : Nat) (hp0 : List AObj) (k0 : AV → AV → List AObj → Eff → KR)  : ∀ m, loopK (fun n' => codeK G 23 hp0.length K p_r08_Lines L c_r08_Lines_l0b n' (retK p_r08_Lines a_r08_Lines hp0) [(0, (fun e hp ef => k0 (e 0).rd (e 3).val hp ef))]) m = fun e hp ef => d_r08_Lines_l0 G K L hp0 k0 m (e 0).rd (e 3).rd (e 3).val (e 4).rd hp ef := by
  intro m
  induction m with
  | zero => rfl
  | succ m ih =>
    show codeK G 23 hp0.length K p_r08_Lines L c_r08_Lines_l0b (loopK _ m) (retK p_r08_Lines a_r08_Lines hp0) [(0, (fun e hp ef => k0 (e 0).rd (e 3).val hp ef))] = _
    rw [ih]
    kernel_rfl
theorem d_r08_Lines_l0_eq (G : Nat → Option (List AV)) (K : FuncId → List AV → List AObj → KR) (L : Nat) (hp0 : List AObj) (k0 : AV → AV → List AObj → Eff → KR)  (zn : Cont) : codeK G 23 hp0.length K p_r08_Lines L c_r08_Lines_l0 zn (retK p_r08_Lines a_r08_Lines hp0) [(0, (fun e hp ef => k0 (e 0).rd (e 3).val hp ef))] = fun e hp ef => d_r08_Lines_l0 G K L hp0 k0 L (e 0).rd (e 3).rd (e 3).val (e 4).rd hp ef := d_r08_Lines_l0_lp G K L hp0 k0  L
def d_r08_Lines (G : Nat → Option (List AV)) (K : FuncId → List AV → List AObj → KR) (L : Nat) (x0 : AV) (hp0 : List AObj) : KR :=
  d_r08_Lines_l0 G K L hp0 (d_r08_Lines_j1 G K L hp0 ) L (AV.ro x0) (.int .i64 0) (.int .i64 0) (.int .i64 0) hp0 none
theorem d_r08_Lines_eq (G : Nat → Option (List AV)) (K : FuncId → List AV → List AObj → KR) (L : Nat) (x0 : AV) (hp0 : List AObj) : fnK G K p_r08_Lines L a_r08_Lines [x0] hp0 = d_r08_Lines G K L x0 hp0 := by
  show codeK G 23 hp0.length K p_r08_Lines L c_r08_Lines (retK p_r08_Lines a_r08_Lines hp0) (retK p_r08_Lines a_r08_Lines hp0) [] (argE [x0]) hp0 none = _
  simp only [c_r08_Lines, codeK_seq, codeK_block, codeK_scope, codeK_cond]
  rw [d_r08_Lines_j1_eq G K L hp0  , d_r08_Lines_l0_eq G K L hp0 (d_r08_Lines_j1 G K L hp0 )  _]
  kernel_rfl
theorem r08_Lines_run {C : Cfg} (h : C.T F_r08_Lines = some a_r08_Lines) {n : Nat} {x0 : AV} {hp : List AObj} {r : AV × List AObj × Eff} (hr : d_r08_Lines C.G (evalCall C n) C.L x0 hp = some r) : evalCall C (n + 1) F_r08_Lines [x0] hp = some r := fnK_ok h (Nat.le_of_ble_eq_true rfl) ((d_r08_Lines_eq ..).trans hr)
def d_r08_Number_j1 (G : Nat → Option (List AV)) (K : FuncId → List AV → List AObj → KR) (L : Nat) (hp0 : List AObj)  (x4 : AV) (y4 : AV) (hp : List AObj) (ef : Eff) : KR :=
  optK (binVal .gtr .prim x4 (.int .i64 1000000000000)) fun v17 =>
  ifK v17
  (some (finK false hp0 (.tup [(AV.nm (.int .i64 0)), (AV.nm (.bool false))]) hp ef))
  (some (finK false hp0 (.tup [(AV.nm y4), (AV.nm (.bool true))]) hp ef))
theorem d_r08_Number_j1_eq (G : Nat → Option (List AV)) (K : FuncId → List AV → List AObj → KR) (L : Nat) (hp0 : List AObj)   : codeK G 46 hp0.length K p_r08_Number L c_r08_Number_j1 (retK p_r08_Number a_r08_Number hp0) (retK p_r08_Number a_r08_Number hp0) [] = fun e hp ef => d_r08_Number_j1 G K L hp0  (e 4).rd (e 4).val hp ef := by
  kernel_rfl
def d_r08_Number_l0 (G : Nat → Option (List AV)) (K : FuncId → List AV → List AObj → KR) (L : Nat) (hp0 : List AObj) (k0 : AV → AV → List AObj → Eff → KR) : Nat → AV → AV → AV → AV → List AObj → Eff → KR
  | 0, _, _, _, _, _, _ => none
  | m + 1, x0, x4, y4, x5, hp, ef =>
    optK (lenVal hp .str x0) fun v18 =>
    optK (binVal .lss .prim x5 v18) fun v19 =>
    ifK v19
    (optK (idxVal x0 x5) fun v20 =>
    opt3 (K F_r08_digit [v20] hp) fun v21 h22 f23 =>
    optK (unVal .not (AV.ro v21)) fun v24 =>
    ifK v24
    (some (finK false hp0 (.tup [(AV.nm (.int .i64 0)), (AV.nm (.bool false))]) h22 (afterK hp0.length ef f23)))
    (optK (binVal .mul .prim (.int .i64 10) x4) fun v25 =>
    optK (idxVal x0 x5) fun v26 =>
    optK (binVal .sub .prim v26 (.int .u8 48)) fun v27 =>
    optK (convVal h22 (.int .i64) v27) fun v28 =>
    optK (binVal .add .prim v25 v28) fun v29 =>
    optK (binVal .add .prim x5 (.int .i64 1)) fun v30 =>
    d_r08_Number_l0 G K L hp0 k0 m x0 v29 v29 v30 h22 (afterK hp0.length ef f23)))
    (k0 x4 y4 hp ef)
theorem d_r08_Number_l0_lp (G : Nat → Option (List AV)) (K : FuncId → List AV → List AObj → KR) (L : Nat) (hp0 : List AObj) (k0 : AV → AV → List AObj → Eff → KR)  : ∀ m, loopK (fun n' => codeK G 46 hp0.length K p_r08_Number L c_r08_Number_l0b n' (retK p_r08_Number a_r08_Number hp0) [(0, (fun e hp ef => k0 (e 4).rd (e 4).val hp ef))]) m = fun e hp ef => d_r08_Number_l0 G K L hp0 k0 m (e 0).rd (e 4).rd (e 4).val (e 5).rd hp ef := by
  intro m
  induction m with
  | zero => rfl
  | succ m ih =>
    show codeK G 46 hp0.length K p_r08_Number L c_r08_Number_l0b (loopK _ m) (retK p_r08_Number a_r08_Number hp0) [(0, (fun e hp ef => k0 (e 4).rd (e 4).val hp ef))] = _
    rw [ih]
    kernel_rfl
theorem d_r08_Number_l0_eq (G : Nat → Option (List AV)) (K : FuncId → List AV → List AObj → KR) (L : Nat) (hp0 : List AObj) (k0 : AV → AV → List AObj → Eff → KR)  (zn : Cont) : codeK G 46 hp0.length K p_r08_Number L c_r08_Number_l0 zn (retK p_r08_Number a_r08_Number hp0) [(0, (fun e hp ef => k0 (e 4).rd (e 4).val hp ef))] = fun e hp ef => d_r08_Number_l0 G K L hp0 k0 L (e 0).rd (e 4).rd (e 4).val (e 5).rd hp ef := d_r08_Number_l0_lp G K L hp0 k0  L
def d_r08_Number (G : Nat → Option (List AV)) (K : FuncId → List AV → List AObj → KR) (L : Nat) (x0 : AV) (hp0 : List AObj) : KR :=
  optK (lenVal hp0 .str (AV.ro x0)) fun v0 =>
  optK (binVal .eql .prim v0 (.int .i64 0)) fun v1 =>
  grpK v1 false
  (optK (lenVal hp0 .str (AV.ro x0)) fun v2 =>
  optK (binVal .gtr .prim v2 (.int .i64 13)) fun v3 =>
  some (v3, hp0, none))
  (some (.bool true)) hp0 none fun v4 h5 f6 =>
  grpK (AV.ro v4) false
  (optK (lenVal h5 .str (AV.ro x0)) fun v7 =>
  optK (binVal .gtr .prim v7 (.int .i64 1)) fun v8 =>
  grpK v8 true
  (optK (idxVal (AV.ro x0) (.int .i64 0)) fun v9 =>
  optK (binVal .eql .prim v9 (.int .u8 48)) fun v10 =>
  some (v10, h5, f6))
  (some (.bool false)) h5 f6 fun v11 h12 f13 =>
  some ((AV.ro v11), h12, f13))
  (some (.bool true)) h5 f6 fun v14 h15 f16 =>
  ifK (AV.ro v14)
  (some (finK false hp0 (.tup [(AV.nm (.int .i64 0)), (AV.nm (.bool false))]) h15 f16))
  (d_r08_Number_l0 G K L hp0 (d_r08_Number_j1 G K L hp0 ) L (AV.ro x0) (.int .i64 0) (.int .i64 0) (.int .i64 0) h15 f16)
theorem d_r08_Number_eq (G : Nat → Option (List AV)) (K : FuncId → List AV → List AObj → KR) (L : Nat) (x0 : AV) (hp0 : List AObj) : fnK G K p_r08_Number L a_r08_Number [x0] hp0 = d_r08_Number G K L x0 hp0 := by
  show codeK G 46 hp0.length K p_r08_Number L c_r08_Number (retK p_r08_Number a_r08_Number hp0) (retK p_r08_Number a_r08_Number hp0) [] (argE [x0]) hp0 none = _
  simp only [c_r08_Number, codeK_seq, codeK_block, codeK_scope, codeK_cond]
  rw [d_r08_Number_j1_eq G K L hp0  , d_r08_Number_l0_eq G K L hp0 (d_r08_Number_j1 G K L hp0 )  _]
  kernel_rfl
theorem r08_Number_run {C : Cfg} (h : C.T F_r08_Number = some a_r08_Number) {n : Nat} {x0 : AV} {hp : List AObj} {r : AV × List AObj × Eff} (hr : d_r08_Number C.G (evalCall C n) C.L x0 hp = some r) : evalCall C (n + 1) F_r08_Number [x0] hp = some r := fnK_ok h (Nat.le_of_ble_eq_true rfl) ((d_r08_Number_eq ..).trans hr)
def d_r08_longest_j3 (G : Nat → Option (List AV)) (K : FuncId → List AV → List AObj → KR) (L : Nat) (hp0 : List AObj)  (y3 : AV) (hp : List AObj) (ef : Eff) : KR :=
  some (finK false hp0 y3 hp ef)
theorem d_r08_longest_j3_eq (G : Nat → Option (List AV)) (K : FuncId → List AV → List AObj → KR) (L : Nat) (hp0 : List AObj)   : codeK G 37 hp0.length K p_r08_longest L c_r08_longest_j3 (retK p_r08_longest a_r08_longest hp0) (retK p_r08_longest a_r08_longest hp0) [] = fun e hp ef => d_r08_longest_j3 G K L hp0  (e 3).val hp ef := by
  kernel_rfl
def d_r08_longest_j2 (G : Nat → Option (List AV)) (K : FuncId → List AV → List AObj → KR) (L : Nat) (hp0 : List AObj) (kn : AV → AV → AV → AV → List AObj → Eff → KR) (x0 : AV) (x3 : AV) (y3 : AV) (x4 : AV) (hp : List AObj) (ef : Eff) : KR :=
  optK (binVal .add .prim x4 (.int .i64 1)) fun v2 =>
  kn x0 x3 y3 v2 hp ef
theorem d_r08_longest_j2_eq (G : Nat → Option (List AV)) (K : FuncId → List AV → List AObj → KR) (L : Nat) (hp0 : List AObj) (kn : AV → AV → AV → AV → List AObj → Eff → KR) (z0 : Cont) : codeK G 37 hp0.length K p_r08_longest L c_r08_longest_j2 (fun e hp ef => kn (e 0).rd (e 3).rd (e 3).val (e 4).rd hp ef) (retK p_r08_longest a_r08_longest hp0) [(0, z0)] = fun e hp ef => d_r08_longest_j2 G K L hp0 kn (e 0).rd (e 3).rd (e 3).val (e 4).rd hp ef := by
  kernel_rfl
def d_r08_longest_j1 (G : Nat → Option (List AV)) (K : FuncId → List AV → List AObj → KR) (L : Nat) (hp0 : List AObj) (kn : AV → AV → AV → AV → List AObj → Eff → KR) (x0 : AV) (x3 : AV) (y3 : AV) (x4 : AV) (hp : List AObj) (ef : Eff) : KR :=
  optK (binVal .gtr .prim x4 x3) fun v3 =>
  grpK v3 true
  (optK (binVal .gtr .prim x4 (.int .i64 2)) fun v4 =>
  some (v4, hp, ef))
  (some (.bool false)) hp ef fun v5 h6 f7 =>
  ifK (AV.ro v5)
  (some (finK false hp0 y3 h6 f7))
  (kn x0 x3 y3 x4 h6 f7)
theorem d_r08_longest_j1_eq (G : Nat → Option (List AV)) (K : FuncId → List AV → List AObj → KR) (L : Nat) (hp0 : List AObj) (kn : AV → AV → AV → AV → List AObj → Eff → KR) (z1 z0 : Cont) : codeK G 37 hp0.length K p_r08_longest L c_r08_longest_j1 (fun e hp ef => kn (e 0).rd (e 3).rd (e 3).val (e 4).rd hp ef) (retK p_r08_longest a_r08_longest hp0) [(1, z1), (0, z0)] = fun e hp ef => d_r08_longest_j1 G K L hp0 kn (e 0).rd (e 3).rd (e 3).val (e 4).rd hp ef := by
  kernel_rfl
def d_r08_longest_l0 (G : Nat → Option (List AV)) (K : FuncId → List AV → List AObj → KR) (L : Nat) (hp0 : List AObj) (k0 : AV → List AObj → Eff → KR) : Nat → AV → AV → AV → AV → List AObj → Eff → KR
  | 0, _, _, _, _, _, _ => none
  | m + 1, x0, x3, y3, x4, hp, ef =>
    optK (lenVal hp .str x0) fun v0 =>
    optK (binVal .leq .prim x4 v0) fun v1 =>
    ifK v1
    (optK (sliceVal .str x0 none (some x4)) fun v8 =>
    opt3 (K F_r08_Word [v8] hp) fun v9 h10 f11 =>
    grpK (AV.ro v9) false
    (optK (sliceVal .str x0 none (some x4)) fun v12 =>
    opt3 (K F_r08_digits [v12] h10) fun v13 h14 f15 =>
    some ((AV.ro v13), h14, (afterK hp0.length (afterK hp0.length ef f11) f15)))
    (some (.bool true)) h10 (afterK hp0.length ef f11) fun v16 h17 f18 =>
    grpK (AV.ro v16) false
    (optK (sliceVal .str x0 none (some x4)) fun v19 =>
    opt3 (K F_r08_Sign [v19] h17) fun v20 h21 f22 =>
    some ((AV.ro v20), h21, (afterK hp0.length f18 f22)))
    (some (.bool true)) h17 f18 fun v23 h24 f25 =>
    ifK (AV.ro v23)
    (d_r08_longest_j1 G K L hp0 (d_r08_longest_j2 G K L hp0 (d_r08_longest_l0 G K L hp0 k0 m)) x0 x4 x4 x4 h24 f25)
    (d_r08_longest_j1 G K L hp0 (d_r08_longest_j2 G K L hp0 (d_r08_longest_l0 G K L hp0 k0 m)) x0 x3 y3 x4 h24 f25))
    (k0 y3 hp ef)
theorem d_r08_longest_l0_lp (G : Nat → Option (List AV)) (K : FuncId → List AV → List AObj → KR) (L : Nat) (hp0 : List AObj) (k0 : AV → List AObj → Eff → KR)  : ∀ m, loopK (fun n' => codeK G 37 hp0.length K p_r08_longest L c_r08_longest_l0b n' (retK p_r08_longest a_r08_longest hp0) [(0, (fun e hp ef => k0 (e 3).val hp ef))]) m = fun e hp ef => d_r08_longest_l0 G K L hp0 k0 m (e 0).rd (e 3).rd (e 3).val (e 4).rd hp ef := by
  intro m
  induction m with
  | zero => rfl
  | succ m ih =>
    show codeK G 37 hp0.length K p_r08_longest L c_r08_longest_l0b (loopK _ m) (retK p_r08_longest a_r08_longest hp0) [(0, (fun e hp ef => k0 (e 3).val hp ef))] = _
    rw [ih]
    simp only [c_r08_longest_l0b, codeK_seq, codeK_block, codeK_scope, codeK_cond]
    rw [d_r08_longest_j2_eq G K L hp0 (d_r08_longest_l0 G K L hp0 k0 m) _, d_r08_longest_j1_eq G K L hp0 (d_r08_longest_j2 G K L hp0 (d_r08_longest_l0 G K L hp0 k0 m)) _ _]
    kernel_rfl
theorem d_r08_longest_l0_eq (G : Nat → Option (List AV)) (K : FuncId → List AV → List AObj → KR) (L : Nat) (hp0 : List AObj) (k0 : AV → List AObj → Eff → KR)  (zn : Cont) : codeK G 37 hp0.length K p_r08_longest L c_r08_longest_l0 zn (retK p_r08_longest a_r08_longest hp0) [(0, (fun e hp ef => k0 (e 3).val hp ef))] = fun e hp ef => d_r08_longest_l0 G K L hp0 k0 L (e 0).rd (e 3).rd (e 3).val (e 4).rd hp ef := d_r08_longest_l0_lp G K L hp0 k0  L
def d_r08_longest (G : Nat → Option (List AV)) (K : FuncId → List AV → List AObj → KR) (L : Nat) (x0 : AV) (hp0 : List AObj) : KR :=
  d_r08_longest_l0 G K L hp0 (d_r08_longest_j3 G K L hp0 ) L (AV.ro x0) (.int .i64 0) (.int .i64 0) (.int .i64 1) hp0 none
theorem d_r08_longest_eq (G : Nat → Option (List AV)) (K : FuncId → List AV → List AObj → KR) (L : Nat) (x0 : AV) (hp0 : List AObj) : fnK G K p_r08_longest L a_r08_longest [x0] hp0 = d_r08_longest G K L x0 hp0 := by
  show codeK G 37 hp0.length K p_r08_longest L c_r08_longest (retK p_r08_longest a_r08_longest hp0) (retK p_r08_longest a_r08_longest hp0) [] (argE [x0]) hp0 none = _
  simp only [c_r08_longest, codeK_seq, codeK_block, codeK_scope, codeK_cond]
  rw [d_r08_longest_j3_eq G K L hp0  , d_r08_longest_l0_eq G K L hp0 (d_r08_longest_j3 G K L hp0 )  _]
  kernel_rfl
theorem r08_longest_run {C : Cfg} (h : C.T F_r08_longest = some a_r08_longest) {n : Nat} {x0 : AV} {hp : List AObj} {r : AV × List AObj × Eff} (hr : d_r08_longest C.G (evalCall C n) C.L x0 hp = some r) : evalCall C (n + 1) F_r08_longest [x0] hp = some r := fnK_ok h (Nat.le_of_ble_eq_true rfl) ((d_r08_longest_eq ..).trans hr)
def d_r08_Word_j1 (G : Nat → Option (List AV)) (K : FuncId → List AV → List AObj → KR) (L : Nat) (hp0 : List AObj)   (hp : List AObj) (ef : Eff) : KR :=
  some (finK false hp0 (.bool true) hp ef)
theorem d_r08_Word_j1_eq (G : Nat → Option (List AV)) (K : FuncId → List AV → List AObj → KR) (L : Nat) (hp0 : List AObj)   : codeK G 37 hp0.length K p_r08_Word L c_r08_Word_j1 (retK p_r08_Word a_r08_Word hp0) (retK p_r08_Word a_r08_Word hp0) [] = fun e hp ef => d_r08_Word_j1 G K L hp0   hp ef := by
  kernel_rfl
def d_r08_Word_l0 (G : Nat → Option (List AV)) (K : FuncId → List AV → List AObj → KR) (L : Nat) (hp0 : List AObj) (k0 : List AObj → Eff → KR) : Nat → AV → AV → List AObj → Eff → KR
  | 0, _, _, _, _ => none
  | m + 1, x0, x3, hp, ef =>
    optK (lenVal hp .str x0) fun v10 =>
    optK (binVal .lss .prim x3 v10) fun v11 =>
    ifK v11
    (optK (idxVal x0 x3) fun v12 =>
    opt3 (K F_r08_letter [v12] hp) fun v13 h14 f15 =>
    optK (unVal .not (AV.ro v13)) fun v16 =>
    grpK v16 true
    (optK (idxVal x0 x3) fun v17 =>
    opt3 (K F_r08_digit [v17] h14) fun v18 h19 f20 =>
    optK (unVal .not (AV.ro v18)) fun v21 =>
    some (v21, h19, (afterK hp0.length (afterK hp0.length ef f15) f20)))
    (some (.bool false)) h14 (afterK hp0.length ef f15) fun v22 h23 f24 =>
    grpK (AV.ro v22) true
    (optK (idxVal x0 x3) fun v25 =>
    optK (binVal .neq .prim v25 (.int .u8 95)) fun v26 =>
    some (v26, h23, f24))
    (some (.bool false)) h23 f24 fun v27 h28 f29 =>
    ifK (AV.ro v27)
    (some (finK false hp0 (.bool false) h28 f29))
    (optK (binVal .add .prim x3 (.int .i64 1)) fun v30 =>
    d_r08_Word_l0 G K L hp0 k0 m x0 v30 h28 f29))
    (k0  hp ef)
theorem d_r08_Word_l0_lp (G : Nat → Option (List AV)) (K : FuncId → List AV → List AObj → KR) (L : Nat) (hp0 : List AObj) (k0 : List AObj → Eff → KR)  : ∀ m, loopK (fun n' => codeK G 37 hp0.length K p_r08_Word L c_r08_Word_l0b n' (retK p_r08_Word a_r08_Word hp0) [(0, (fun e hp ef => k0  hp ef))]) m = fun e hp ef => d_r08_Word_l0 G K L hp0 k0 m (e 0).rd (e 3).rd hp ef := by
  intro m
  induction m with
  | zero => rfl
  | succ m ih =>
    show codeK G 37 hp0.length K p_r08_Word L c_r08_Word_l0b (loopK _ m) (retK p_r08_Word a_r08_Word hp0) [(0, (fun e hp ef => k0  hp ef))] = _
    rw [ih]
    kernel_rfl
theorem d_r08_Word_l0_eq (G : Nat → Option (List AV)) (K : FuncId → List AV → List AObj → KR) (L : Nat) (hp0 : List AObj) (k0 : List AObj → Eff → KR)  (zn : Cont) : codeK G 37 hp0.length K p_r08_Word L c_r08_Word_l0 zn (retK p_r08_Word a_r08_Word hp0) [(0, (fun e hp ef => k0  hp ef))] = fun e hp ef => d_r08_Word_l0 G K L hp0 k0 L (e 0).rd (e 3).rd hp ef := d_r08_Word_l0_lp G K L hp0 k0  L
def d_r08_Word (G : Nat → Option (List AV)) (K : FuncId → List AV → List AObj → KR) (L : Nat) (x0 : AV) (hp0 : List AObj) : KR :=
  optK (lenVal hp0 .str (AV.ro x0)) fun v0 =>
  optK (binVal .eql .prim v0 (.int .i64 0)) fun v1 =>
  grpK v1 false
  (optK (idxVal (AV.ro x0) (.int .i64 0)) fun v2 =>
  opt3 (K F_r08_letter [v2] hp0) fun v3 h4 f5 =>
  optK (unVal .not (AV.ro v3)) fun v6 =>
  some (v6, h4, (afterK hp0.length none f5)))
  (some (.bool true)) hp0 none fun v7 h8 f9 =>
  ifK (AV.ro v7)
  (some (finK false hp0 (.bool false) h8 f9))
  (d_r08_Word_l0 G K L hp0 (d_r08_Word_j1 G K L hp0 ) L (AV.ro x0) (.int .i64 0) h8 f9)
theorem d_r08_Word_eq (G : Nat → Option (List AV)) (K : FuncId → List AV → List AObj → KR) (L : Nat) (x0 : AV) (hp0 : List AObj) : fnK G K p_r08_Word L a_r08_Word [x0] hp0 = d_r08_Word G K L x0 hp0 := by
  show codeK G 37 hp0.length K p_r08_Word L c_r08_Word (retK p_r08_Word a_r08_Word hp0) (retK p_r08_Word a_r08_Word hp0) [] (argE [x0]) hp0 none = _
  simp only [c_r08_Word, codeK_seq, codeK_block, codeK_scope, codeK_cond]
  rw [d_r08_Word_j1_eq G K L hp0  , d_r08_Word_l0_eq G K L hp0 (d_r08_Word_j1 G K L hp0 )  _]
  kernel_rfl
theorem r08_Word_run {C : Cfg} (h : C.T F_r08_Word = some a_r08_Word) {n : Nat} {x0 : AV} {hp : List AObj} {r : AV × List AObj × Eff} (hr : d_r08_Word C.G (evalCall C n) C.L x0 hp = some r) : evalCall C (n + 1) F_r08_Word [x0] hp = some r := fnK_ok h (Nat.le_of_ble_eq_true rfl) ((d_r08_Word_eq ..).trans hr)
def d_r08_digits_j1 (G : Nat → Option (List AV)) (K : FuncId → List AV → List AObj → KR) (L : Nat) (hp0 : List AObj)  (x0 : AV) (hp : List AObj) (ef : Eff) : KR :=
  optK (lenVal hp .str x0) fun v0 =>
  optK (binVal .gtr .prim v0 (.int .i64 0)) fun v1 =>
  some (finK false hp0 v1 hp ef)
theorem d_r08_digits_j1_eq (G : Nat → Option (List AV)) (K : FuncId → List AV → List AObj → KR) (L : Nat) (hp0 : List AObj)   : codeK G 18 hp0.length K p_r08_digits L c_r08_digits_j1 (retK p_r08_digits a_r08_digits hp0) (retK p_r08_digits a_r08_digits hp0) [] = fun e hp ef => d_r08_digits_j1 G K L hp0  (e 0).rd hp ef := by
  kernel_rfl
def d_r08_digits_l0 (G : Nat → Option (List AV)) (K : FuncId → List AV → List AObj → KR) (L : Nat) (hp0 : List AObj) (k0 : AV → List AObj → Eff → KR) : Nat → AV → AV → List AObj → Eff → KR
  | 0, _, _, _, _ => none
  | m + 1, x0, x3, hp, ef =>
    optK (lenVal hp .str x0) fun v2 =>
    optK (binVal .lss .prim x3 v2) fun v3 =>
    ifK v3
    (optK (idxVal x0 x3) fun v4 =>
    opt3 (K F_r08_digit [v4] hp) fun v5 h6 f7 =>
    optK (unVal .not (AV.ro v5)) fun v8 =>
    ifK v8
    (some (finK false hp0 (.bool false) h6 (afterK hp0.length ef f7)))
    (optK (binVal .add .prim x3 (.int .i64 1)) fun v9 =>
    d_r08_digits_l0 G K L hp0 k0 m x0 v9 h6 (afterK hp0.length ef f7)))
    (k0 x0 hp ef)
theorem d_r08_digits_l0_lp (G : Nat → Option (List AV)) (K : FuncId → List AV → List AObj → KR) (L : Nat) (hp0 : List AObj) (k0 : AV → List AObj → Eff → KR)  : ∀ m, loopK (fun n' => codeK G 18 hp0.length K p_r08_digits L c_r08_digits_l0b n' (retK p_r08_digits a_r08_digits hp0) [(0, (fun e hp ef => k0 (e 0).rd hp ef))]) m = fun e hp ef => d_r08_digits_l0 G K L hp0 k0 m (e 0).rd (e 3).rd hp ef := by
  intro m
  induction m with
  | zero => rfl
  | succ m ih =>
    show codeK G 18 hp0.length K p_r08_digits L c_r08_digits_l0b (loopK _ m) (retK p_r08_digits a_r08_digits hp0) [(0, (fun e hp ef => k0 (e 0).rd hp ef))] = _
    rw [ih]
    kernel_rfl
theorem d_r08_digits_l0_eq (G : Nat → Option (List AV)) (K : FuncId → List AV → List AObj → KR) (L : Nat) (hp0 : List AObj) (k0 : AV → List AObj → Eff → KR)  (zn : Cont) : codeK G 18 hp0.length K p_r08_digits L c_r08_digits_l0 zn (retK p_r08_digits a_r08_digits hp0) [(0, (fun e hp ef => k0 (e 0).rd hp ef))] = fun e hp ef => d_r08_digits_l0 G K L hp0 k0 L (e 0).rd (e 3).rd hp ef := d_r08_digits_l0_lp G K L hp0 k0  L
def d_r08_digits (G : Nat → Option (List AV)) (K : FuncId → List AV → List AObj → KR) (L : Nat) (x0 : AV) (hp0 : List AObj) : KR :=
  d_r08_digits_l0 G K L hp0 (d_r08_digits_j1 G K L hp0 ) L (AV.ro x0) (.int .i64 0) hp0 none
theorem d_r08_digits_eq (G : Nat → Option (List AV)) (K : FuncId → List AV → List AObj → KR) (L : Nat) (x0 : AV) (hp0 : List AObj) : fnK G K p_r08_digits L a_r08_digits [x0] hp0 = d_r08_digits G K L x0 hp0 := by
  show codeK G 18 hp0.length K p_r08_digits L c_r08_digits (retK p_r08_digits a_r08_digits hp0) (retK p_r08_digits a_r08_digits hp0) [] (argE [x0]) hp0 none = _
  simp only [c_r08_digits, codeK_seq, codeK_block, codeK_scope, codeK_cond]
  rw [d_r08_digits_j1_eq G K L hp0  , d_r08_digits_l0_eq G K L hp0 (d_r08_digits_j1 G K L hp0 )  _]
  kernel_rfl
theorem r08_digits_run {C : Cfg} (h : C.T F_r08_digits = some a_r08_digits) {n : Nat} {x0 : AV} {hp : List AObj} {r : AV × List AObj × Eff} (hr : d_r08_digits C.G (evalCall C n) C.L x0 hp = some r) : evalCall C (n + 1) F_r08_digits [x0] hp = some r := fnK_ok h (Nat.le_of_ble_eq_true rfl) ((d_r08_digits_eq ..).trans hr)
def d_r08_formed (G : Nat → Option (List AV)) (K : FuncId → List AV → List AObj → KR) (L : Nat) (x0 : AV) (hp0 : List AObj) : KR :=
  optK (boxV 4 (AV.ro x0)) fun v1 =>
  letK (hp0 ++ [.cells v1 ty_api_Token]) fun h0 =>
  optK (faVal 0 (.ptr (hp0).length 0)) fun v2 =>
  optK (ldcVal h0 v2) fun v3 =>
  optK (binVal .eql .prim v3 (.int .i64 1)) fun v4 =>
  ifK v4
  (optK (faVal 1 (.ptr (hp0).length 0)) fun v5 =>
  optK (ldcVal h0 v5) fun v6 =>
  opt3 (K F_r08_Word [v6] h0) fun v7 h8 f9 =>
  grpK (AV.ro v7) true
  (optK (faVal 2 (.ptr (hp0).length 0)) fun v10 =>
  optK (ldcVal h8 v10) fun v11 =>
  optK (binVal .eql .prim v11 (.int .i64 0)) fun v12 =>
  some (v12, h8, (afterK hp0.length none f9)))
  (some (.bool false)) h8 (afterK hp0.length none f9) fun v13 h14 f15 =>
  some (finK false hp0 v13 h14 f15))
  (optK (binVal .eql .prim v3 (.int .i64 2)) fun v16 =>
  ifK v16
  (optK (faVal 1 (.ptr (hp0).length 0)) fun v17 =>
  optK (ldcVal h0 v17) fun v18 =>
  optK (binVal .eql .prim v18 (.str [])) fun v19 =>
  grpK v19 true
  (optK (faVal 2 (.ptr (hp0).length 0)) fun v20 =>
  optK (ldcVal h0 v20) fun v21 =>
  optK (binVal .geq .prim v21 (.int .i64 0)) fun v22 =>
  some (v22, h0, none))
  (some (.bool false)) h0 none fun v23 h24 f25 =>
  grpK (AV.ro v23) true
  (optK (faVal 2 (.ptr (hp0).length 0)) fun v26 =>
  optK (ldcVal h24 v26) fun v27 =>
  optK (binVal .leq .prim v27 (.int .i64 1000000000000)) fun v28 =>
  some (v28, h24, f25))
  (some (.bool false)) h24 f25 fun v29 h30 f31 =>
  some (finK false hp0 v29 h30 f31))
  (optK (binVal .eql .prim v3 (.int .i64 3)) fun v32 =>
  ifK v32
  (optK (faVal 1 (.ptr (hp0).length 0)) fun v33 =>
  optK (ldcVal h0 v33) fun v34 =>
  opt3 (K F_r08_Sign [v34] h0) fun v35 h36 f37 =>
  grpK (AV.ro v35) true
  (optK (faVal 2 (.ptr (hp0).length 0)) fun v38 =>
  optK (ldcVal h36 v38) fun v39 =>
  optK (binVal .eql .prim v39 (.int .i64 0)) fun v40 =>
  some (v40, h36, (afterK hp0.length none f37)))
  (some (.bool false)) h36 (afterK hp0.length none f37) fun v41 h42 f43 =>
  some (finK false hp0 v41 h42 f43))
  (optK (faVal 1 (.ptr (hp0).length 0)) fun v44 =>
  optK (ldcVal h0 v44) fun v45 =>
  optK (binVal .eql .prim v45 (.str [])) fun v46 =>
  grpK v46 true
  (optK (faVal 2 (.ptr (hp0).length 0)) fun v47 =>
  optK (ldcVal h0 v47) fun v48 =>
  optK (binVal .eql .prim v48 (.int .i64 0)) fun v49 =>
  some (v49, h0, none))
  (some (.bool false)) h0 none fun v50 h51 f52 =>
  some (finK false hp0 v50 h51 f52))))
theorem d_r08_formed_eq (G : Nat → Option (List AV)) (K : FuncId → List AV → List AObj → KR) (L : Nat) (x0 : AV) (hp0 : List AObj) : fnK G K p_r08_formed L a_r08_formed [x0] hp0 = d_r08_formed G K L x0 hp0 := by
  kernel_rfl
theorem r08_formed_run {C : Cfg} (h : C.T F_r08_formed = some a_r08_formed) {n : Nat} {x0 : AV} {hp : List AObj} {r : AV × List AObj × Eff} (hr : d_r08_formed C.G (evalCall C n) C.L x0 hp = some r) : evalCall C (n + 1) F_r08_formed [x0] hp = some r := fnK_ok h (Nat.le_of_ble_eq_true rfl) ((d_r08_formed_eq ..).trans hr)
def d_r08_digit (G : Nat → Option (List AV)) (K : FuncId → List AV → List AObj → KR) (L : Nat) (x0 : AV) (hp0 : List AObj) : KR :=
  optK (binVal .geq .prim (AV.ro x0) (.int .u8 48)) fun v0 =>
  grpK v0 true
  (optK (binVal .leq .prim (AV.ro x0) (.int .u8 57)) fun v1 =>
  some (v1, hp0, none))
  (some (.bool false)) hp0 none fun v2 h3 f4 =>
  some (finK false hp0 v2 h3 f4)
theorem d_r08_digit_eq (G : Nat → Option (List AV)) (K : FuncId → List AV → List AObj → KR) (L : Nat) (x0 : AV) (hp0 : List AObj) : fnK G K p_r08_digit L a_r08_digit [x0] hp0 = d_r08_digit G K L x0 hp0 := by
  kernel_rfl
theorem r08_digit_run {C : Cfg} (h : C.T F_r08_digit = some a_r08_digit) {n : Nat} {x0 : AV} {hp : List AObj} {r : AV × List AObj × Eff} (hr : d_r08_digit C.G (evalCall C n) C.L x0 hp = some r) : evalCall C (n + 1) F_r08_digit [x0] hp = some r := fnK_ok h (Nat.le_of_ble_eq_true rfl) ((d_r08_digit_eq ..).trans hr)
def d_r08_Sign (G : Nat → Option (List AV)) (K : FuncId → List AV → List AObj → KR) (L : Nat) (x0 : AV) (hp0 : List AObj) : KR :=
  optK (binVal .eql .prim (AV.ro x0) (.str [43])) fun v0 =>
  ifK v0
  (ifK v0
  (some (finK false hp0 (.bool true) hp0 none))
  (some (finK false hp0 (.bool false) hp0 none)))
  (optK (binVal .eql .prim (AV.ro x0) (.str [45])) fun v1 =>
  ifK v1
  (ifK v1
  (some (finK false hp0 (.bool true) hp0 none))
  (some (finK false hp0 (.bool false) hp0 none)))
  (optK (binVal .eql .prim (AV.ro x0) (.str [42])) fun v2 =>
  ifK v2
  (ifK v2
  (some (finK false hp0 (.bool true) hp0 none))
  (some (finK false hp0 (.bool false) hp0 none)))
  (optK (binVal .eql .prim (AV.ro x0) (.str [47])) fun v3 =>
  ifK v3
  (ifK v3
  (some (finK false hp0 (.bool true) hp0 none))
  (some (finK false hp0 (.bool false) hp0 none)))
  (optK (binVal .eql .prim (AV.ro x0) (.str [37])) fun v4 =>
  ifK v4
  (ifK v4
  (some (finK false hp0 (.bool true) hp0 none))
  (some (finK false hp0 (.bool false) hp0 none)))
  (optK (binVal .eql .prim (AV.ro x0) (.str [61])) fun v5 =>
  ifK v5
  (ifK v5
  (some (finK false hp0 (.bool true) hp0 none))
  (some (finK false hp0 (.bool false) hp0 none)))
  (optK (binVal .eql .prim (AV.ro x0) (.str [33, 61])) fun v6 =>
  ifK v6
  (ifK v6
  (some (finK false hp0 (.bool true) hp0 none))
  (some (finK false hp0 (.bool false) hp0 none)))
  (optK (binVal .eql .prim (AV.ro x0) (.str [60])) fun v7 =>
  ifK v7
  (ifK v7
  (some (finK false hp0 (.bool true) hp0 none))
  (some (finK false hp0 (.bool false) hp0 none)))
  (optK (binVal .eql .prim (AV.ro x0) (.str [60, 61])) fun v8 =>
  ifK v8
  (ifK v8
  (some (finK false hp0 (.bool true) hp0 none))
  (some (finK false hp0 (.bool false) hp0 none)))
  (optK (binVal .eql .prim (AV.ro x0) (.str [62])) fun v9 =>
  ifK v9
  (ifK v9
  (some (finK false hp0 (.bool true) hp0 none))
  (some (finK false hp0 (.bool false) hp0 none)))
  (optK (binVal .eql .prim (AV.ro x0) (.str [62, 61])) fun v10 =>
  ifK v10
  (ifK v10
  (some (finK false hp0 (.bool true) hp0 none))
  (some (finK false hp0 (.bool false) hp0 none)))
  (optK (binVal .eql .prim (AV.ro x0) (.str [40])) fun v11 =>
  ifK v11
  (ifK v11
  (some (finK false hp0 (.bool true) hp0 none))
  (some (finK false hp0 (.bool false) hp0 none)))
  (optK (binVal .eql .prim (AV.ro x0) (.str [41])) fun v12 =>
  ifK v12
  (ifK v12
  (some (finK false hp0 (.bool true) hp0 none))
  (some (finK false hp0 (.bool false) hp0 none)))
  (optK (binVal .eql .prim (AV.ro x0) (.str [44])) fun v13 =>
  ifK v13
  (ifK v13
  (some (finK false hp0 (.bool true) hp0 none))
  (some (finK false hp0 (.bool false) hp0 none)))
  (optK (binVal .eql .prim (AV.ro x0) (.str [58])) fun v14 =>
  ifK v14
  (ifK v14
  (some (finK false hp0 (.bool true) hp0 none))
  (some (finK false hp0 (.bool false) hp0 none)))
  (optK (binVal .eql .prim (AV.ro x0) (.str [46])) fun v15 =>
  ifK v15
  (some (finK false hp0 (.bool true) hp0 none))
  (some (finK false hp0 (.bool false) hp0 none)))))))))))))))))
theorem d_r08_Sign_eq (G : Nat → Option (List AV)) (K : FuncId → List AV → List AObj → KR) (L : Nat) (x0 : AV) (hp0 : List AObj) : fnK G K p_r08_Sign L a_r08_Sign [x0] hp0 = d_r08_Sign G K L x0 hp0 := by
  kernel_rfl
theorem r08_Sign_run {C : Cfg} (h : C.T F_r08_Sign = some a_r08_Sign) {n : Nat} {x0 : AV} {hp : List AObj} {r : AV × List AObj × Eff} (hr : d_r08_Sign C.G (evalCall C n) C.L x0 hp = some r) : evalCall C (n + 1) F_r08_Sign [x0] hp = some r := fnK_ok h (Nat.le_of_ble_eq_true rfl) ((d_r08_Sign_eq ..).trans hr)
def d_r08_letter (G : Nat → Option (List AV)) (K : FuncId → List AV → List AObj → KR) (L : Nat) (x0 : AV) (hp0 : List AObj) : KR :=
  optK (binVal .geq .prim (AV.ro x0) (.int .u8 97)) fun v0 =>
  grpK v0 true
  (optK (binVal .leq .prim (AV.ro x0) (.int .u8 122)) fun v1 =>
  some (v1, hp0, none))
  (some (.bool false)) hp0 none fun v2 h3 f4 =>
  some (finK false hp0 v2 h3 f4)
theorem d_r08_letter_eq (G : Nat → Option (List AV)) (K : FuncId → List AV → List AObj → KR) (L : Nat) (x0 : AV) (hp0 : List AObj) : fnK G K p_r08_letter L a_r08_letter [x0] hp0 = d_r08_letter G K L x0 hp0 := by
  kernel_rfl
theorem r08_letter_run {C : Cfg} (h : C.T F_r08_letter = some a_r08_letter) {n : Nat} {x0 : AV} {hp : List AObj} {r : AV × List AObj × Eff} (hr : d_r08_letter C.G (evalCall C n) C.L x0 hp = some r) : evalCall C (n + 1) F_r08_letter [x0] hp = some r := fnK_ok h (Nat.le_of_ble_eq_true rfl) ((d_r08_letter_eq ..).trans hr)
end Go.Proofs.YtiabiflaecidoaaDoor
end
