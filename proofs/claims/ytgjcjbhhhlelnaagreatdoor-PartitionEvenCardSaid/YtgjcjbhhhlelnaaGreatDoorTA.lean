/-
  The functions in the evaluator's terms, as the compile lays them; printed by wip/abs/T6.lean.txt.
-/
import Derived.Test.YtgjcjbhhhlelnaaGreatDoorRows
import Derived.Test.YtgjcjbhhhlelnaaGreatDoorQ2
import Derived.ProofKit
namespace Go.Proofs.YtgjcjbhhhlelnaaGreatDoor
open Go Go.Proofs.YtgjcjbhhhlelnaaGreatDoor.Abs
set_option maxRecDepth 100000
set_option maxHeartbeats 0
set_option linter.all false
def takes : FuncId → List Nat := fun _ => []
abbrev F_main_main : FuncId := 0
abbrev F_gosem_cut : FuncId := 1
abbrev F_gosem_cut_init : FuncId := 2
abbrev F_law34_PartitionChecks : FuncId := 3
abbrev F_law34_PartitionCuts : FuncId := 4
abbrev F_law34_PartitionEven : FuncId := 5
abbrev F_law34_PartitionEvens : FuncId := 6
abbrev F_law34_PartitionAhead : FuncId := 7
abbrev F_law34_PartitionWays : FuncId := 8
abbrev F_law34_few : FuncId := 9
abbrev F_law34_awake : FuncId := 10
abbrev F_partition_Least : FuncId := 11
abbrev F_r34_Least : FuncId := 12
abbrev F_partition_Check : FuncId := 13
abbrev F_r34_Check : FuncId := 14
abbrev F_r34_SameArcs : FuncId := 15
abbrev F_partition_Cut : FuncId := 16
abbrev F_r34_Cut : FuncId := 17
abbrev F_partition_Even : FuncId := 18
abbrev F_r34_Even : FuncId := 19
abbrev F_r34_SameInts : FuncId := 20
abbrev F_partition_Ahead : FuncId := 21
abbrev F_r34_Ahead : FuncId := 22
abbrev F_law34_square : FuncId := 23
abbrev F_law34_three : FuncId := 24
abbrev F_code_Check : FuncId := 25
abbrev F_slices_Contains_Lbool_bool_ : FuncId := 26
abbrev F_r17_Check : FuncId := 27
abbrev F_slices_Repeat_Lint_int_ : FuncId := 28
abbrev F_partition_shorter : FuncId := 29
abbrev F_num_Add : FuncId := 30
abbrev F_r01_Add : FuncId := 31
abbrev F_law34_site : FuncId := 32
abbrev F_names_Check : FuncId := 33
abbrev F_model_Check : FuncId := 34
abbrev F_code_agrees : FuncId := 35
abbrev F_code_arcs : FuncId := 36
abbrev F_code_Routine : FuncId := 37
abbrev F_slices_Index_Lbool_bool_ : FuncId := 38
abbrev F_r07_Check : FuncId := 39
abbrev F_r11_Check : FuncId := 40
abbrev F_r17_fits : FuncId := 41
abbrev F_r17_arcs : FuncId := 42
abbrev F_r17_Routine : FuncId := 43
abbrev F_math_bits_Mul : FuncId := 44
abbrev F_num_Clip : FuncId := 45
abbrev F_r01_Clip : FuncId := 46
abbrev F_names_letter : FuncId := 47
abbrev F_names_Keyword : FuncId := 48
abbrev F__model_scope__values : FuncId := 49
abbrev F_model_each_api_SiteDecl_ : FuncId := 50
abbrev F_model_Check_1 : FuncId := 51
abbrev F__model_scope__enter : FuncId := 52
abbrev F_model_site : FuncId := 53
abbrev F_model_links : FuncId := 54
abbrev F_slices_EqualFunc_Lapi_Code_Lapi_Routine_api_Code_api_Routine_ : FuncId := 55
abbrev F_code_agrees_1 : FuncId := 56
abbrev F__code_place__instr : FuncId := 57
abbrev F_r07_letter : FuncId := 58
abbrev F_r07_Keyword : FuncId := 59
abbrev F_r11_first : FuncId := 60
abbrev F_r11_unless : FuncId := 61
abbrev F_r11_value : FuncId := 62
abbrev F_r11_named : FuncId := 63
abbrev F_r11_site : FuncId := 64
abbrev F_r11_links : FuncId := 65
abbrev F_r17_instr : FuncId := 66
abbrev F_math_bits_Mul32 : FuncId := 67
abbrev F_math_bits_Mul64 : FuncId := 68
abbrev F_model_each_api_Value_ : FuncId := 69
abbrev F__model_scope__value : FuncId := 70
abbrev F_model_site_1 : FuncId := 71
abbrev F_model_each_string_ : FuncId := 72
abbrev F_model_first : FuncId := 73
abbrev F_model_site_2 : FuncId := 74
abbrev F_model_site_3 : FuncId := 75
abbrev F_model_each_api_ResourceDecl_ : FuncId := 76
abbrev F_model_site_3_1 : FuncId := 77
abbrev F_model_within : FuncId := 78
abbrev F_model_schedule : FuncId := 79
abbrev F_model_failures : FuncId := 80
abbrev F_model_site_4 : FuncId := 81
abbrev F_model_each_api_StoreDecl_ : FuncId := 82
abbrev F_model_site_4_1 : FuncId := 83
abbrev F_model_site_5 : FuncId := 84
abbrev F_model_each_api_BeltDecl_ : FuncId := 85
abbrev F_model_site_5_1 : FuncId := 86
abbrev F_model_site_6 : FuncId := 87
abbrev F_model_site_7 : FuncId := 88
abbrev F_model_site_8 : FuncId := 89
abbrev F_model_site_9 : FuncId := 90
abbrev F_model_site_10 : FuncId := 91
abbrev F_model_site_11 : FuncId := 92
abbrev F_model_each_api_Routine_ : FuncId := 93
abbrev F_model_site_11_1 : FuncId := 94
abbrev F_model_routine : FuncId := 95
abbrev F_model_site_12 : FuncId := 96
abbrev F_model_each_api_Start_ : FuncId := 97
abbrev F_model_site_12_1 : FuncId := 98
abbrev F_model_start : FuncId := 99
abbrev F_model_site_13 : FuncId := 100
abbrev F_model_laws : FuncId := 101
abbrev F_model_each_api_Link_ : FuncId := 102
abbrev F_model_links_1 : FuncId := 103
abbrev F_model_Site : FuncId := 104
abbrev F_code_known : FuncId := 105
abbrev F_code_clean : FuncId := 106
abbrev F__code_place__has : FuncId := 107
abbrev F_code_Arc : FuncId := 108
abbrev F_code_expressions : FuncId := 109
abbrev F_expr_CheckCode : FuncId := 110
abbrev F__code_place__sees : FuncId := 111
abbrev F_dist_Check : FuncId := 112
abbrev F_r07_Find : FuncId := 113
abbrev F_r07_Keywords : FuncId := 114
abbrev F_r11_Typed : FuncId := 115
abbrev F_r11_Fits : FuncId := 116
abbrev F_r11_Names : FuncId := 117
abbrev F_r11_declared : FuncId := 118
abbrev F_r11_start : FuncId := 119
abbrev F_r11_law : FuncId := 120
abbrev F_r11_Site : FuncId := 121
abbrev F_r11_within : FuncId := 122
abbrev F_r17_known : FuncId := 123
abbrev F_r17_plain : FuncId := 124
abbrev F_r17_objects : FuncId := 125
abbrev F_r17_Exprs : FuncId := 126
abbrev F_r09_CheckCode : FuncId := 127
abbrev F_r17_seen : FuncId := 128
abbrev F_r04_Check : FuncId := 129
abbrev F_model_known : FuncId := 130
abbrev F_model_fits : FuncId := 131
abbrev F_dist_Same : FuncId := 132
abbrev F_slices_Contains_Lstring_string_ : FuncId := 133
abbrev F_slices_Concat_Lapi_Field_api_Field_ : FuncId := 134
abbrev F_stmt_Check : FuncId := 135
abbrev F_model_Routine : FuncId := 136
abbrev F_model_each_api_Law_ : FuncId := 137
abbrev F_model_laws_1 : FuncId := 138
abbrev F_model_each_api_Term_ : FuncId := 139
abbrev F_model_laws_1_1 : FuncId := 140
abbrev F_model_term : FuncId := 141
abbrev F_num_In : FuncId := 142
abbrev F_slices_IndexFunc_Lapi_SiteDecl_api_SiteDecl_ : FuncId := 143
abbrev F_model_Site_1 : FuncId := 144
abbrev F_code_zero : FuncId := 145
abbrev F__code_place__most : FuncId := 146
abbrev F_slices_IndexFunc_Lapi_Arc_api_Arc_ : FuncId := 147
abbrev F_code_Arc_1 : FuncId := 148
abbrev F__expr_kind__check : FuncId := 149
abbrev F_slices_ContainsFunc_Lapi_Expr_api_Expr_ : FuncId := 150
abbrev F__code_place__sees_1 : FuncId := 151
abbrev F_dist_unused : FuncId := 152
abbrev F_dist_within : FuncId := 153
abbrev F_r01_In : FuncId := 154
abbrev F_r11_resource : FuncId := 155
abbrev F_r11_routine : FuncId := 156
abbrev F_r11_Routine : FuncId := 157
abbrev F_r11_term : FuncId := 158
abbrev F_r17_Forms : FuncId := 159
abbrev F_r09_Same : FuncId := 160
abbrev F_r04_Same : FuncId := 161
abbrev F_r17_inside : FuncId := 162
abbrev F_r17_begun : FuncId := 163
abbrev F_r17_Arc : FuncId := 164
abbrev F_r09_check : FuncId := 165
abbrev F_r04_unused : FuncId := 166
abbrev F_r04_between : FuncId := 167
abbrev F_r04_table : FuncId := 168
abbrev F_slices_Equal_Lint_int_ : FuncId := 169
abbrev F_slices_Index_Lstring_string_ : FuncId := 170
abbrev F_slices_Grow_Lapi_Field_api_Field_ : FuncId := 171
abbrev F_stmt_Count : FuncId := 172
abbrev F_stmt_Depth : FuncId := 173
abbrev F_stmt_check : FuncId := 174
abbrev F_slices_IndexFunc_Lapi_Routine_api_Routine_ : FuncId := 175
abbrev F_model_Routine_1 : FuncId := 176
abbrev F_slices_ContainsFunc_Lapi_StoreDecl_api_StoreDecl_ : FuncId := 177
abbrev F_model_term_1 : FuncId := 178
abbrev F_expr_Same : FuncId := 179
abbrev F_expr_Nodes : FuncId := 180
abbrev F_expr_Depth : FuncId := 181
abbrev F__expr_kind__nodes : FuncId := 182
abbrev F_slices_IndexFunc_Lapi_Expr_api_Expr_ : FuncId := 183
abbrev F_slices_ContainsFunc_Lint_int_ : FuncId := 184
abbrev F_dist_within_1 : FuncId := 185
abbrev F_r11_Schedule : FuncId := 186
abbrev F_r10_Check : FuncId := 187
abbrev F_r11_Kind : FuncId := 188
abbrev F_r09_SameAll : FuncId := 189
abbrev F_r04_sameInts : FuncId := 190
abbrev F_r17_count : FuncId := 191
abbrev F_r09_Nodes : FuncId := 192
abbrev F_r09_Depth : FuncId := 193
abbrev F_r09_node : FuncId := 194
abbrev F_stmt_uses : FuncId := 195
abbrev F_stmt_form : FuncId := 196
abbrev F_stmt_parts : FuncId := 197
abbrev F_slices_IndexFunc_Lapi_StoreDecl_api_StoreDecl_ : FuncId := 198
abbrev F__expr_kind__node : FuncId := 199
abbrev F_slices_IndexFunc_Lint_int_ : FuncId := 200
abbrev F_r10_Count : FuncId := 201
abbrev F_r10_Depth : FuncId := 202
abbrev F_r10_list : FuncId := 203
abbrev F_r09_Arity : FuncId := 204
abbrev F_r09_object : FuncId := 205
abbrev F_r09_most : FuncId := 206
abbrev F_stmt_form_1 : FuncId := 207
abbrev F_expr_Check : FuncId := 208
abbrev F__expr_kind__known : FuncId := 209
abbrev F_expr_kids : FuncId := 210
abbrev F__expr_kind__named : FuncId := 211
abbrev F__expr_kind__numbers : FuncId := 212
abbrev F_r10_one : FuncId := 213
abbrev F_expr_object : FuncId := 214
abbrev F_r10_Of : FuncId := 215
abbrev F_r10_formed : FuncId := 216
abbrev F_r10_exprs : FuncId := 217
abbrev F_r10_zero : FuncId := 218
abbrev F_r09_Check : FuncId := 219
abbrev F__runtime_boundsError__Error : FuncId := 220
abbrev F__runtime_boundsError__RuntimeError : FuncId := 221
abbrev F__runtime_errorString__Error : FuncId := 222
abbrev F__runtime_errorString__RuntimeError : FuncId := 223
abbrev F__runtime_plainError__Error : FuncId := 224
abbrev F__runtime_plainError__RuntimeError : FuncId := 225
abbrev F__runtime_errorAddressString__Error : FuncId := 226
abbrev F__runtime_errorAddressString__RuntimeError : FuncId := 227
abbrev F__Pruntime_TypeAssertionError__Error : FuncId := 228
abbrev F__Pruntime_TypeAssertionError__RuntimeError : FuncId := 229
abbrev F__Pruntime_PanicNilError__Error : FuncId := 230
abbrev F__Pruntime_PanicNilError__RuntimeError : FuncId := 231
abbrev F__Pinternal_abi_Type__Align : FuncId := 232
abbrev F__internal_runtime_maps_unhashableTypeError__Error : FuncId := 233
abbrev F__internal_runtime_maps_unhashableTypeError__RuntimeError : FuncId := 234
abbrev F__internal_abi_Kind__String : FuncId := 235
abbrev F_var_s_door__gosem_cut_vars_holds_initialisers_alone__see_the_manifest_s_row_cutvarsword__look_11__test_files_too_ : FuncId := 236
abbrev F_var_s_door__code_forms_is_laid_by_its_own_initialiser__plain_data__look_11_ : FuncId := 237
abbrev F_var_s_door__the_look_of_gosem_cut_vars_went_over_the_folder_that_the_caller_named_as_the_repository_s_root__look_11_ : FuncId := 238
abbrev F_gosem_cut_vars : FuncId := 239
abbrev ty___ : TypeId := 0
abbrev ty_func__ : TypeId := 1
abbrev ty_int64 : TypeId := 2
abbrev ty_int : TypeId := 3
abbrev ty_bool : TypeId := 4
abbrev ty_uint8 : TypeId := 5
abbrev ty_abi_BoundsErrorCode : TypeId := 6
abbrev ty_struct___x_int64__y_int__signed_bool__code_abi_BoundsErrorCode__ : TypeId := 7
abbrev ty_runtime_boundsError : TypeId := 8
abbrev ty_string : TypeId := 9
abbrev ty_runtime_errorString : TypeId := 10
abbrev ty_runtime_plainError : TypeId := 11
abbrev ty_uintptr : TypeId := 12
abbrev ty_struct___msg_string__addr_uintptr__ : TypeId := 13
abbrev ty_runtime_errorAddressString : TypeId := 14
abbrev ty_Pruntime_TypeAssertionError : TypeId := 15
abbrev ty_Pruntime_PanicNilError : TypeId := 16
abbrev ty_Pabi_Type : TypeId := 17
abbrev ty_struct___typ_Pabi_Type__ : TypeId := 18
abbrev ty_maps_unhashableTypeError : TypeId := 19
abbrev ty_interface___ : TypeId := 20
abbrev ty_int32 : TypeId := 21
abbrev ty_Lapi_SiteCode : TypeId := 22
abbrev ty_Lapi_Arc : TypeId := 23
abbrev ty_struct___Name_string__Sites_Lapi_SiteCode__Links_Lapi_Arc__ : TypeId := 24
abbrev ty_api_Program : TypeId := 25
abbrev ty_Lint : TypeId := 26
abbrev ty_func_api_Program__Lint__bool : TypeId := 27
abbrev ty_func___bool : TypeId := 28
abbrev ty__int__bool_ : TypeId := 29
abbrev ty_func_api_Program__Lint___int__bool_ : TypeId := 30
abbrev ty_api_Errno : TypeId := 31
abbrev ty_func_api_Program__Lint__api_Errno : TypeId := 32
abbrev ty_func_Lapi_Arc__Lapi_Arc__bool : TypeId := 33
abbrev ty_func_api_Program__Lint__Lapi_Arc : TypeId := 34
abbrev ty_struct___From_int__To_int__Delay_int__ : TypeId := 35
abbrev ty_api_Arc : TypeId := 36
abbrev ty__Lint__api_Errno_ : TypeId := 37
abbrev ty_func_int__int___Lint__api_Errno_ : TypeId := 38
abbrev ty_func_Lint__Lint__bool : TypeId := 39
abbrev ty_func_int__int__bool : TypeId := 40
abbrev ty_func_api_Program__uint8__bool : TypeId := 41
abbrev ty_LLint : TypeId := 42
abbrev ty_func_api_Program__LLint : TypeId := 43
abbrev ty_func_api_Program__bool : TypeId := 44
abbrev ty_func_LLint__int__bool : TypeId := 45
abbrev ty_func___api_Program : TypeId := 46
abbrev ty_func_api_Program__api_Errno : TypeId := 47
abbrev ty__16_bool : TypeId := 48
abbrev ty_func_Lbool__bool__bool : TypeId := 49
abbrev ty_Lbool : TypeId := 50
abbrev ty_func_Lint__int__Lint : TypeId := 51
abbrev ty_func_int__int__int : TypeId := 52
abbrev ty_Lapi_Value : TypeId := 53
abbrev ty_Lapi_ResourceDecl : TypeId := 54
abbrev ty_Lapi_StoreDecl : TypeId := 55
abbrev ty_Lapi_BeltDecl : TypeId := 56
abbrev ty_Lstring : TypeId := 57
abbrev ty_Lapi_Routine : TypeId := 58
abbrev ty_Lapi_Start : TypeId := 59
abbrev ty_Lapi_Law : TypeId := 60
abbrev ty_struct___Name_string__Vars_Lapi_Value__Resources_Lapi_ResourceDecl__Stores_Lapi_StoreDecl__Belts_Lapi_BeltDecl__Queues_Lstring__Streams_Lstring__Tallies_Lstring__Levels_Lstring__Counts_Lstring__Routines_Lapi_Routine__Starts_Lapi_Start__Laws_Lapi_Law__ : TypeId := 61
abbrev ty_api_SiteDecl : TypeId := 62
abbrev ty_Lapi_Code : TypeId := 63
abbrev ty_struct___Decl_api_SiteDecl__Routines_Lapi_Code__ : TypeId := 64
abbrev ty_api_SiteCode : TypeId := 65
abbrev ty_func_string__api_SiteCode : TypeId := 66
abbrev ty_func_string__api_Errno : TypeId := 67
abbrev ty_map_string_bool : TypeId := 68
abbrev ty_func_api_Model__api_Errno : TypeId := 69
abbrev ty_Lapi_SiteDecl : TypeId := 70
abbrev ty_Lapi_Link : TypeId := 71
abbrev ty_struct___Name_string__Params_Lapi_Value__Sites_Lapi_SiteDecl__Links_Lapi_Link__ : TypeId := 72
abbrev ty_api_Model : TypeId := 73
abbrev ty_func_api_SiteCode__bool : TypeId := 74
abbrev ty_Lapi_Instr : TypeId := 75
abbrev ty_struct___Name_string__Params_int__Slots_int__Instrs_Lapi_Instr__ : TypeId := 76
abbrev ty_api_Code : TypeId := 77
abbrev ty_func_api_Program__int__api_Code__api_Errno : TypeId := 78
abbrev ty_func_Lbool__bool__int : TypeId := 79
abbrev ty_uint : TypeId := 80
abbrev ty__uint__uint_ : TypeId := 81
abbrev ty_func_uint__uint___uint__uint_ : TypeId := 82
abbrev ty_func_int__int : TypeId := 83
abbrev ty_func_uint8__bool : TypeId := 84
abbrev ty_func_string__bool : TypeId := 85
abbrev ty_model_scope : TypeId := 86
abbrev ty_func_Lapi_Value__api_Errno : TypeId := 87
abbrev ty_func_Lapi_SiteDecl__int__func_api_SiteDecl__api_Errno__api_Errno : TypeId := 88
abbrev ty_func_api_SiteDecl__api_Errno : TypeId := 89
abbrev ty_func_Lapi_Code__Lapi_Routine__func_api_Code__api_Routine__bool__bool : TypeId := 90
abbrev ty_Lapi_Field : TypeId := 91
abbrev ty_Lapi_Stmt : TypeId := 92
abbrev ty_struct___Name_string__Params_Lapi_Field__Locals_Lapi_Field__Body_Lapi_Stmt__ : TypeId := 93
abbrev ty_api_Routine : TypeId := 94
abbrev ty_func_api_Code__api_Routine__bool : TypeId := 95
abbrev ty_map__2_int_bool : TypeId := 96
abbrev ty__2_int : TypeId := 97
abbrev ty_struct___p_api_Program__site_int__c_api_Code__ : TypeId := 98
abbrev ty_code_place : TypeId := 99
abbrev ty_api_InstrOp : TypeId := 100
abbrev ty_api_ExprOp : TypeId := 101
abbrev ty_Lapi_Expr : TypeId := 102
abbrev ty_struct___Op_api_ExprOp__Name_string__N_int__Kids_Lapi_Expr__ : TypeId := 103
abbrev ty_api_Expr : TypeId := 104
abbrev ty_api_DistOp : TypeId := 105
abbrev ty_struct___Op_api_DistOp__A_int__B_int__N_int__Values_Lint__Weights_Lint__ : TypeId := 106
abbrev ty_api_Dist : TypeId := 107
abbrev ty_struct___Op_api_InstrOp__A_int__B_int__C_int__E_api_Expr__F_api_Expr__Args_Lapi_Expr__Dist_api_Dist__Flag_bool__ : TypeId := 108
abbrev ty_api_Instr : TypeId := 109
abbrev ty_func_api_Instr__api_Errno : TypeId := 110
abbrev ty_func_api_Errno__api_Errno__api_Errno : TypeId := 111
abbrev ty_func_bool__api_Errno__api_Errno : TypeId := 112
abbrev ty_func_api_Value__Lstring__api_Errno : TypeId := 113
abbrev ty_api_Type : TypeId := 114
abbrev ty_struct___Name_string__Type_api_Type__N_int__ : TypeId := 115
abbrev ty_api_Value : TypeId := 116
abbrev ty_func_string__Lstring__api_Errno : TypeId := 117
abbrev ty_func_api_Program__int__api_Code__api_Instr__api_Errno : TypeId := 118
abbrev ty_uint32 : TypeId := 119
abbrev ty__uint32__uint32_ : TypeId := 120
abbrev ty_func_uint32__uint32___uint32__uint32_ : TypeId := 121
abbrev ty_uint64 : TypeId := 122
abbrev ty__uint64__uint64_ : TypeId := 123
abbrev ty_func_uint64__uint64___uint64__uint64_ : TypeId := 124
abbrev ty_func_Lapi_Value__int__func_api_Value__api_Errno__api_Errno : TypeId := 125
abbrev ty_func_api_Value__api_Errno : TypeId := 126
abbrev ty_func_Lstring__int__func_string__api_Errno__api_Errno : TypeId := 127
abbrev ty_func_Lstring__api_Errno : TypeId := 128
abbrev ty_func____func___api_Errno__api_Errno : TypeId := 129
abbrev ty_func___api_Errno : TypeId := 130
abbrev ty_func_Lapi_ResourceDecl__int__func_api_ResourceDecl__api_Errno__api_Errno : TypeId := 131
abbrev ty_Lapi_Change : TypeId := 132
abbrev ty_struct___Stream_string__Up_api_Dist__Down_api_Dist__ : TypeId := 133
abbrev ty_api_Fault : TypeId := 134
abbrev ty_struct___Name_string__Units_int__Shift_Lapi_Change__Cycle_int__Fault_api_Fault__ : TypeId := 135
abbrev ty_api_ResourceDecl : TypeId := 136
abbrev ty_func_int__int__int__bool : TypeId := 137
abbrev ty_func_api_ResourceDecl__api_Errno : TypeId := 138
abbrev ty_func_api_SiteDecl__api_Fault__api_Errno : TypeId := 139
abbrev ty_func_Lapi_StoreDecl__int__func_api_StoreDecl__api_Errno__api_Errno : TypeId := 140
abbrev ty_api_Policy : TypeId := 141
abbrev ty_struct___Name_string__Room_int__Policy_api_Policy__ : TypeId := 142
abbrev ty_api_StoreDecl : TypeId := 143
abbrev ty_func_api_StoreDecl__api_Errno : TypeId := 144
abbrev ty_func_Lapi_BeltDecl__int__func_api_BeltDecl__api_Errno__api_Errno : TypeId := 145
abbrev ty_struct___Name_string__Length_int__Step_int__ : TypeId := 146
abbrev ty_api_BeltDecl : TypeId := 147
abbrev ty_func_api_BeltDecl__api_Errno : TypeId := 148
abbrev ty_func_Lapi_Routine__int__func_api_Routine__api_Errno__api_Errno : TypeId := 149
abbrev ty_func_api_Routine__api_Errno : TypeId := 150
abbrev ty_func_Lapi_Start__int__func_api_Start__api_Errno__api_Errno : TypeId := 151
abbrev ty_struct___Routine_string__Args_Lint__At_int__Every_int__Until_int__ : TypeId := 152
abbrev ty_api_Start : TypeId := 153
abbrev ty_func_api_SiteDecl__api_Start__api_Errno : TypeId := 154
abbrev ty_func_api_Start__api_Errno : TypeId := 155
abbrev ty_map__2_string_bool : TypeId := 156
abbrev ty_func_Lapi_Link__int__func_api_Link__api_Errno__api_Errno : TypeId := 157
abbrev ty_struct___From_string__To_string__Delay_int__ : TypeId := 158
abbrev ty_api_Link : TypeId := 159
abbrev ty__2_string : TypeId := 160
abbrev ty_func_api_Model__string__int : TypeId := 161
abbrev ty_func_api_Link__api_Errno : TypeId := 162
abbrev ty_func_api_InstrOp__bool : TypeId := 163
abbrev ty_func_api_Instr__bool : TypeId := 164
abbrev ty_code_what : TypeId := 165
abbrev ty_struct___word_string__a_code_what__b_code_what__c_bool__e_bool__f_bool__args_bool__dist_bool__preempt_bool__ : TypeId := 166
abbrev ty_code_form : TypeId := 167
abbrev ty_Lcode_form : TypeId := 168
abbrev ty_func_code_what__int__int__bool : TypeId := 169
abbrev ty_func_api_Program__int__int___int__bool_ : TypeId := 170
abbrev ty_func_api_Instr__Lapi_Expr : TypeId := 171
abbrev ty_func_api_Expr__api_Errno : TypeId := 172
abbrev ty_func_api_Expr__bool : TypeId := 173
abbrev ty_func_api_Dist__api_Errno : TypeId := 174
abbrev ty_func_Lstring__string__int : TypeId := 175
abbrev ty_func___Lstring : TypeId := 176
abbrev ty_func_api_Type__bool : TypeId := 177
abbrev ty_func_api_Type__int__bool : TypeId := 178
abbrev ty_LLstring : TypeId := 179
abbrev ty_func_api_SiteDecl__LLstring : TypeId := 180
abbrev ty_func_api_SiteDecl__int__int__api_Errno : TypeId := 181
abbrev ty_func_api_SiteDecl__api_Law__Lstring__api_Errno : TypeId := 182
abbrev ty_Lapi_Term : TypeId := 183
abbrev ty_struct___Name_string__Terms_Lapi_Term__Total_int__ : TypeId := 184
abbrev ty_api_Law : TypeId := 185
abbrev ty_func_api_Program__int__api_Code__api_Expr__bool : TypeId := 186
abbrev ty_Lfunc___api_Errno : TypeId := 187
abbrev ty_struct___At_int__Units_int__ : TypeId := 188
abbrev ty_api_Change : TypeId := 189
abbrev ty_func_api_Dist__api_Dist__bool : TypeId := 190
abbrev ty_func_Lstring__string__bool : TypeId := 191
abbrev ty_func____Lapi_Field__Lapi_Field : TypeId := 192
abbrev ty_struct___Name_string__Type_api_Type__ : TypeId := 193
abbrev ty_api_Field : TypeId := 194
abbrev ty_func_Lapi_Stmt__api_Errno : TypeId := 195
abbrev ty_func_api_SiteDecl__string__int : TypeId := 196
abbrev ty_func_Lapi_Law__int__func_api_Law__api_Errno__api_Errno : TypeId := 197
abbrev ty_func_Lapi_Term__int__func_api_Term__api_Errno__api_Errno : TypeId := 198
abbrev ty_struct___Coef_int__What_string__Name_string__ : TypeId := 199
abbrev ty_api_Term : TypeId := 200
abbrev ty_func_api_SiteDecl__api_Term__api_Errno : TypeId := 201
abbrev ty_func_api_Term__api_Errno : TypeId := 202
abbrev ty_func_int__bool : TypeId := 203
abbrev ty_func_api_Law__api_Errno : TypeId := 204
abbrev ty_func_Lapi_SiteDecl__func_api_SiteDecl__bool__int : TypeId := 205
abbrev ty_func_api_SiteDecl__bool : TypeId := 206
abbrev ty_func_code_what__int__int : TypeId := 207
abbrev ty_func_Lapi_Arc__func_api_Arc__bool__int : TypeId := 208
abbrev ty_func_api_Arc__bool : TypeId := 209
abbrev ty_struct___code_bool__ : TypeId := 210
abbrev ty_expr_kind : TypeId := 211
abbrev ty_func_Lapi_Expr__func_api_Expr__bool__bool : TypeId := 212
abbrev ty_func_api_Dist__bool : TypeId := 213
abbrev ty_func_int__int_____int__bool : TypeId := 214
abbrev ty_func_api_SiteDecl__api_ResourceDecl__api_Errno : TypeId := 215
abbrev ty_struct___Word_string__A_string__B_string__C_bool__E_bool__F_bool__Flag_bool__Args_bool__Dist_bool__ : TypeId := 216
abbrev ty_simulatorref17_Form : TypeId := 217
abbrev ty_Lsimulatorref17_Form : TypeId := 218
abbrev ty_func___Lsimulatorref17_Form : TypeId := 219
abbrev ty_func_api_Expr__api_Expr__bool : TypeId := 220
abbrev ty_func_api_Program__int__api_Code__string__int__bool : TypeId := 221
abbrev ty_func_api_Program__int__api_Instr__api_Errno : TypeId := 222
abbrev ty_func_api_Expr__bool__api_Errno : TypeId := 223
abbrev ty_LLapi_Field : TypeId := 224
abbrev ty_func_Lapi_Field__int__Lapi_Field : TypeId := 225
abbrev ty_func_Lapi_Stmt__int : TypeId := 226
abbrev ty_func_Lapi_Routine__func_api_Routine__bool__int : TypeId := 227
abbrev ty_func_api_Routine__bool : TypeId := 228
abbrev ty_func_Lapi_StoreDecl__func_api_StoreDecl__bool__bool : TypeId := 229
abbrev ty_func_api_StoreDecl__bool : TypeId := 230
abbrev ty_func_api_Expr__int : TypeId := 231
abbrev ty_func_Lapi_Expr__func_api_Expr__bool__int : TypeId := 232
abbrev ty_func_Lint__func_int__bool__bool : TypeId := 233
abbrev ty_func_api_SiteDecl__string__string : TypeId := 234
abbrev ty_func_Lapi_Expr__Lapi_Expr__bool : TypeId := 235
abbrev ty_func_api_Program__int__api_Code__string__int : TypeId := 236
abbrev ty_api_StmtOp : TypeId := 237
abbrev ty_struct___Op_api_StmtOp__Name_string__Of_string__E_api_Expr__F_api_Expr__Args_Lapi_Expr__Dist_api_Dist__Flag_bool__Body_Lapi_Stmt__Else_Lapi_Stmt__ : TypeId := 238
abbrev ty_api_Stmt : TypeId := 239
abbrev ty_struct___name_bool__of_bool__e_bool__f_bool__args_bool__dist_bool__flag_bool__body_bool__other_bool__ : TypeId := 240
abbrev ty_stmt_use : TypeId := 241
abbrev ty__stmt_use__bool_ : TypeId := 242
abbrev ty_func_api_StmtOp___stmt_use__bool_ : TypeId := 243
abbrev ty_func_api_Stmt__stmt_use__bool : TypeId := 244
abbrev ty_func_api_Stmt__stmt_use__api_Errno : TypeId := 245
abbrev ty_func_Lapi_StoreDecl__func_api_StoreDecl__bool__int : TypeId := 246
abbrev ty_func_Lint__func_int__bool__int : TypeId := 247
abbrev ty_func_api_ExprOp__int : TypeId := 248
abbrev ty_func_api_ExprOp__bool : TypeId := 249
abbrev ty_struct___is_bool__name_string__ : TypeId := 250
abbrev ty_Lstruct___is_bool__name_string__ : TypeId := 251
abbrev ty_struct___is_bool__e_api_Expr__ : TypeId := 252
abbrev ty_Lstruct___is_bool__e_api_Expr__ : TypeId := 253
abbrev ty__int__int__bool_ : TypeId := 254
abbrev ty_func_api_ExprOp___int__int__bool_ : TypeId := 255
abbrev ty_func_api_Stmt__api_Errno : TypeId := 256
abbrev ty_struct___Name_bool__Of_bool__E_bool__F_bool__Args_bool__Dist_bool__Flag_bool__Body_bool__Else_bool__ : TypeId := 257
abbrev ty_simulatorref10_Form : TypeId := 258
abbrev ty__simulatorref10_Form__bool_ : TypeId := 259
abbrev ty_func_api_StmtOp___simulatorref10_Form__bool_ : TypeId := 260
abbrev ty_func_api_Stmt__bool : TypeId := 261
abbrev ty_func_api_Stmt__simulatorref10_Form__api_Errno : TypeId := 262
abbrev ty_func___string : TypeId := 263
abbrev ty_struct____interface_Pabi_Type__concrete_Pabi_Type__asserted_Pabi_Type__missingMethod_string__ : TypeId := 264
abbrev ty_runtime_TypeAssertionError : TypeId := 265
abbrev ty__0_Pruntime_PanicNilError : TypeId := 266
abbrev ty_struct______0_Pruntime_PanicNilError__ : TypeId := 267
abbrev ty_runtime_PanicNilError : TypeId := 268
abbrev ty_func___int : TypeId := 269
abbrev ty_abi_TFlag : TypeId := 270
abbrev ty_abi_Kind : TypeId := 271
abbrev ty_func_unsafe_Pointer__unsafe_Pointer__bool : TypeId := 272
abbrev ty_Puint8 : TypeId := 273
abbrev ty_abi_NameOff : TypeId := 274
abbrev ty_abi_TypeOff : TypeId := 275
abbrev ty_struct___Size__uintptr__PtrBytes_uintptr__Hash_uint32__TFlag_abi_TFlag__Align__uint8__FieldAlign__uint8__Kind__abi_Kind__Equal_func_unsafe_Pointer__unsafe_Pointer__bool__GCData_Puint8__Str_abi_NameOff__PtrToThis_abi_TypeOff__ : TypeId := 276
abbrev ty_abi_Type : TypeId := 277
abbrev ty_unsafe_Pointer : TypeId := 278
def c_law34_PartitionEven_l0b : ACode :=
  .seq (.seq (.region false [⟨(some 59), .mv (.tmp 10), none⟩,
      ⟨(some 60), .mv (.tmp 0), none⟩,
      ⟨(some 61), .bin .leq .prim (.tmp 59) (.tmp 60), none⟩])
   (.cond (.tmp 61) (.skip)
    (.exit 0)))
  (.seq (.block 1 (.seq (.seq (.region true [⟨(some 64), .mv (.tmp 10), none⟩,
         ⟨(some 65), .mv (.tmp 0), none⟩,
         ⟨(some 66), .bin .lss .prim (.tmp 64) (.tmp 65), none⟩,
         ⟨(some 67), .mv (.tmp 66), none⟩,
         ⟨(some 68), .mv (.tmp 5), (some (67, true))⟩,
         ⟨(some 69), .mv (.tmp 10), (some (67, true))⟩,
         ⟨(some 70), .ia (.slice 1) (.tmp 68) (.tmp 69), (some (67, true))⟩,
         ⟨(some 71), .ldc (.tmp 70), (some (67, true))⟩,
         ⟨(some 72), .mv (.tmp 5), (some (67, true))⟩,
         ⟨(some 73), .mv (.tmp 10), (some (67, true))⟩,
         ⟨(some 74), .bin .sub .prim (.tmp 73) (.const (.int .i64 1)), (some (67, true))⟩,
         ⟨(some 75), .ia (.slice 1) (.tmp 72) (.tmp 74), (some (67, true))⟩,
         ⟨(some 76), .ldc (.tmp 75), (some (67, true))⟩,
         ⟨(some 77), .bin .eql .prim (.tmp 71) (.tmp 76), (some (67, true))⟩,
         ⟨(some 78), .pick (.tmp 67) (.tmp 77) (.const (.bool false)), none⟩])
      (.cond (.tmp 78) (.seq (.region false [⟨(some 79), .mv (.tmp 9), none⟩,
           ⟨(some 80), .bin .add .prim (.tmp 79) (.const (.int .i64 1)), none⟩,
           ⟨(some 9), .take 80, none⟩])
        (.exit 1))
       (.skip)))
     (.seq (.seq (.region true [⟨(some 81), .mv (.tmp 10), none⟩,
          ⟨(some 82), .mv (.tmp 0), none⟩,
          ⟨(some 83), .bin .lss .prim (.tmp 81) (.tmp 82), none⟩,
          ⟨(some 84), .mv (.tmp 83), none⟩,
          ⟨(some 85), .mv (.tmp 5), (some (84, true))⟩,
          ⟨(some 86), .mv (.tmp 10), (some (84, true))⟩,
          ⟨(some 87), .ia (.slice 1) (.tmp 85) (.tmp 86), (some (84, true))⟩,
          ⟨(some 88), .ldc (.tmp 87), (some (84, true))⟩,
          ⟨(some 89), .mv (.tmp 5), (some (84, true))⟩,
          ⟨(some 90), .mv (.tmp 10), (some (84, true))⟩,
          ⟨(some 91), .bin .sub .prim (.tmp 90) (.const (.int .i64 1)), (some (84, true))⟩,
          ⟨(some 92), .ia (.slice 1) (.tmp 89) (.tmp 91), (some (84, true))⟩,
          ⟨(some 93), .ldc (.tmp 92), (some (84, true))⟩,
          ⟨(some 94), .bin .add .prim (.tmp 93) (.const (.int .i64 1)), (some (84, true))⟩,
          ⟨(some 95), .bin .neq .prim (.tmp 88) (.tmp 94), (some (84, true))⟩,
          ⟨(some 96), .pick (.tmp 84) (.tmp 95) (.const (.bool false)), none⟩,
          ⟨(some 97), .mv (.tmp 96), none⟩,
          ⟨(some 98), .mv (.tmp 9), (some (97, false))⟩,
          ⟨(some 99), .mv (.tmp 0), (some (97, false))⟩,
          ⟨(some 100), .mv (.tmp 1), (some (97, false))⟩,
          ⟨(some 101), .bin .quo .prim (.tmp 99) (.tmp 100), (some (97, false))⟩,
          ⟨(some 102), .bin .neq .prim (.tmp 98) (.tmp 101), (some (97, false))⟩,
          ⟨(some 103), .mv (.tmp 102), (some (97, false))⟩,
          ⟨(some 104), .mv (.tmp 9), (some (103, true))⟩,
          ⟨(some 105), .mv (.tmp 0), (some (103, true))⟩,
          ⟨(some 106), .mv (.tmp 1), (some (103, true))⟩,
          ⟨(some 107), .bin .add .prim (.tmp 105) (.tmp 106), (some (103, true))⟩,
          ⟨(some 108), .bin .sub .prim (.tmp 107) (.const (.int .i64 1)), (some (103, true))⟩,
          ⟨(some 109), .mv (.tmp 1), (some (103, true))⟩,
          ⟨(some 110), .bin .quo .prim (.tmp 108) (.tmp 109), (some (103, true))⟩,
          ⟨(some 111), .bin .neq .prim (.tmp 104) (.tmp 110), (some (103, true))⟩,
          ⟨(some 112), .pick (.tmp 103) (.tmp 111) (.const (.bool false)), (some (97, false))⟩,
          ⟨(some 113), .pick (.tmp 97) (.const (.bool true)) (.tmp 112), none⟩])
       (.cond (.tmp 113) (.seq (.region false [⟨(some 4), .mv (.const (.bool false)), none⟩])
         (.ret))
        (.skip)))
      (.region false [⟨(some 9), .mv (.const (.int .i64 1)), none⟩]))))
   (.region false [⟨(some 62), .mv (.tmp 10), none⟩,
      ⟨(some 63), .bin .add .prim (.tmp 62) (.const (.int .i64 1)), none⟩,
      ⟨(some 10), .take 63, none⟩]))
def c_law34_PartitionEven_l0 : ACode := .loop c_law34_PartitionEven_l0b
def c_law34_PartitionEven_j1 : ACode :=
  .seq (.region false [⟨(some 114), .call (.const (.fn 10 [] [])) [], none⟩,
     ⟨(some 4), .take 114, none⟩])
  (.ret)
/-- simulator/simulatorlaw34.PartitionEven -/
def c_law34_PartitionEven : ACode :=
  .seq (.region false [⟨(some 4), .mv (.const (.bool false)), none⟩])
  (.seq (.region false [⟨(some 12), .mv (.tmp 0), none⟩,
      ⟨(some 13), .mv (.tmp 1), none⟩,
      ⟨(some 14), .call (.const (.fn 18 [] [])) [(.inr (.tmp 12)), (.inr (.tmp 13))], none⟩,
      ⟨(some 11), .mv (.tmp 14), none⟩,
      ⟨(some 15), .extract (.tmp 11) 0, none⟩,
      ⟨(some 16), .extract (.tmp 11) 1, none⟩,
      ⟨(some 5), .take 15, none⟩,
      ⟨(some 6), .take 16, none⟩])
   (.seq (.region false [⟨(some 18), .mv (.tmp 0), none⟩,
       ⟨(some 19), .mv (.tmp 1), none⟩,
       ⟨(some 20), .call (.const (.fn 19 [] [])) [(.inr (.tmp 18)), (.inr (.tmp 19))], none⟩,
       ⟨(some 17), .mv (.tmp 20), none⟩,
       ⟨(some 21), .extract (.tmp 17) 0, none⟩,
       ⟨(some 22), .extract (.tmp 17) 1, none⟩,
       ⟨(some 7), .take 21, none⟩,
       ⟨(some 8), .take 22, none⟩])
    (.seq (.seq (.region false [⟨(some 23), .mv (.tmp 6), none⟩,
         ⟨(some 24), .mv (.tmp 8), none⟩,
         ⟨(some 25), .bin .neq .prim (.tmp 23) (.tmp 24), none⟩,
         ⟨(some 26), .mv (.tmp 25), none⟩,
         ⟨(some 27), .mv (.tmp 5), (some (26, false))⟩,
         ⟨(some 28), .mv (.tmp 7), (some (26, false))⟩,
         ⟨(some 29), .call (.const (.fn 20 [] [])) [(.inr (.tmp 27)), (.inr (.tmp 28))], (some (26, false))⟩,
         ⟨(some 30), .un .not (.tmp 29), (some (26, false))⟩,
         ⟨(some 31), .pick (.tmp 26) (.const (.bool true)) (.tmp 30), none⟩])
      (.cond (.tmp 31) (.seq (.region false [⟨(some 4), .mv (.const (.bool false)), none⟩])
        (.ret))
       (.skip)))
     (.seq (.seq (.region false [⟨(some 32), .mv (.tmp 6), none⟩,
          ⟨(some 33), .bin .neq .prim (.tmp 32) (.const (.int .i64 0)), none⟩])
       (.cond (.tmp 33) (.seq (.region false [⟨(some 34), .call (.const (.fn 10 [] [])) [], none⟩,
            ⟨(some 4), .take 34, none⟩])
         (.ret))
        (.skip)))
      (.seq (.seq (.region false [⟨(some 35), .mv (.tmp 5), none⟩,
           ⟨(some 36), .len .slice (.tmp 35), none⟩,
           ⟨(some 37), .mv (.tmp 0), none⟩,
           ⟨(some 38), .bin .neq .prim (.tmp 36) (.tmp 37), none⟩,
           ⟨(some 39), .mv (.tmp 38), none⟩,
           ⟨(some 40), .mv (.tmp 0), (some (39, false))⟩,
           ⟨(some 41), .bin .lss .prim (.tmp 40) (.const (.int .i64 1)), (some (39, false))⟩,
           ⟨(some 42), .pick (.tmp 39) (.const (.bool true)) (.tmp 41), none⟩,
           ⟨(some 43), .mv (.tmp 42), none⟩,
           ⟨(some 44), .mv (.tmp 5), (some (43, false))⟩,
           ⟨(some 45), .ia (.slice 1) (.tmp 44) (.const (.int .i64 0)), (some (43, false))⟩,
           ⟨(some 46), .ldc (.tmp 45), (some (43, false))⟩,
           ⟨(some 47), .bin .neq .prim (.tmp 46) (.const (.int .i64 0)), (some (43, false))⟩,
           ⟨(some 48), .pick (.tmp 43) (.const (.bool true)) (.tmp 47), none⟩,
           ⟨(some 49), .mv (.tmp 48), none⟩,
           ⟨(some 50), .mv (.tmp 5), (some (49, false))⟩,
           ⟨(some 51), .mv (.tmp 0), (some (49, false))⟩,
           ⟨(some 52), .bin .sub .prim (.tmp 51) (.const (.int .i64 1)), (some (49, false))⟩,
           ⟨(some 53), .ia (.slice 1) (.tmp 50) (.tmp 52), (some (49, false))⟩,
           ⟨(some 54), .ldc (.tmp 53), (some (49, false))⟩,
           ⟨(some 55), .mv (.tmp 1), (some (49, false))⟩,
           ⟨(some 56), .bin .sub .prim (.tmp 55) (.const (.int .i64 1)), (some (49, false))⟩,
           ⟨(some 57), .bin .neq .prim (.tmp 54) (.tmp 56), (some (49, false))⟩,
           ⟨(some 58), .pick (.tmp 49) (.const (.bool true)) (.tmp 57), none⟩])
        (.cond (.tmp 58) (.seq (.region false [⟨(some 4), .mv (.const (.bool false)), none⟩])
          (.ret))
         (.skip)))
       (.seq (.region false [⟨(some 9), .mv (.const (.int .i64 1)), none⟩])
        (.seq (.seq (.region false [⟨(some 10), .mv (.const (.int .i64 1)), none⟩])
          (.block 0 (c_law34_PartitionEven_l0)))
         c_law34_PartitionEven_j1)))))))
def a_law34_PartitionEven : AFn := ⟨115, [.tmp 4], c_law34_PartitionEven, false⟩
def p_law34_PartitionEven : List Nat := [27, 28, 29, 30, 40, 41, 44, 45, 46, 47, 50, 51, 52, 53, 54, 55, 56, 57, 68, 69, 70, 71, 72, 73, 74, 75, 76, 77, 85, 86, 87, 88, 89, 90, 91, 92, 93, 94, 95, 98, 99, 100, 101, 102, 103, 104, 105, 106, 107, 108, 109, 110, 111, 112]
theorem t_law34_PartitionEven : cFn Tryz.prog takes Tryz.f5 = some a_law34_PartitionEven := by kernel_rfl
theorem n_law34_PartitionEven : (Tryz.f5.name == "runtime.NumGoroutine") = false := by kernel_rfl
def c_partition_Even_l0b : ACode :=
  .seq (.region false [⟨(some 28), .bin .lss .prim (.tmp 27) (.tmp 26), none⟩])
  (.seq (.cond (.tmp 28) (.skip)
    (.exit 0))
   (.seq (.block 1 (.seq (.region false [⟨(some 29), .mv (.tmp 27), none⟩,
         ⟨(some 7), .take 29, none⟩])
      (.region false [⟨(some 30), .mv (.tmp 6), none⟩,
         ⟨(some 31), .mv (.tmp 7), none⟩,
         ⟨(some 32), .mv (.tmp 7), none⟩,
         ⟨(some 33), .mv (.tmp 1), none⟩,
         ⟨(some 34), .bin .mul .prim (.tmp 32) (.tmp 33), none⟩,
         ⟨(some 35), .mv (.tmp 0), none⟩,
         ⟨(some 36), .bin .quo .prim (.tmp 34) (.tmp 35), none⟩,
         ⟨(some 37), .ia (.slice 1) (.tmp 30) (.tmp 31), none⟩,
         ⟨none, .stt (.tmp 37) 36, none⟩])))
    (.region false [⟨(some 38), .bin .add .prim (.tmp 27) (.const (.int .i64 1)), none⟩,
       ⟨(some 27), .mv (.tmp 38), none⟩])))
def c_partition_Even_l0 : ACode := .loop c_partition_Even_l0b
def c_partition_Even_j1 : ACode :=
  .seq (.region false [⟨(some 39), .take 6, none⟩,
     ⟨(some 4), .take 39, none⟩,
     ⟨(some 5), .mv (.const (.int .i64 0)), none⟩])
  (.ret)
/-- simulator/partition.Even -/
def c_partition_Even : ACode :=
  .seq (.region false [⟨(some 4), .mv (.const (.own 1 [])), none⟩,
     ⟨(some 5), .mv (.const (.int .i64 0)), none⟩])
  (.seq (.seq (.region false [⟨(some 8), .mv (.tmp 0), none⟩,
       ⟨(some 9), .bin .lss .prim (.tmp 8) (.const (.int .i64 1)), none⟩,
       ⟨(some 10), .mv (.tmp 9), none⟩,
       ⟨(some 11), .mv (.tmp 0), (some (10, false))⟩,
       ⟨(some 12), .bin .gtr .prim (.tmp 11) (.const (.int .i64 16)), (some (10, false))⟩,
       ⟨(some 13), .pick (.tmp 10) (.const (.bool true)) (.tmp 12), none⟩,
       ⟨(some 14), .mv (.tmp 13), none⟩,
       ⟨(some 15), .mv (.tmp 1), (some (14, false))⟩,
       ⟨(some 16), .bin .lss .prim (.tmp 15) (.const (.int .i64 1)), (some (14, false))⟩,
       ⟨(some 17), .pick (.tmp 14) (.const (.bool true)) (.tmp 16), none⟩,
       ⟨(some 18), .mv (.tmp 17), none⟩,
       ⟨(some 19), .mv (.tmp 1), (some (18, false))⟩,
       ⟨(some 20), .mv (.tmp 0), (some (18, false))⟩,
       ⟨(some 21), .bin .gtr .prim (.tmp 19) (.tmp 20), (some (18, false))⟩,
       ⟨(some 22), .pick (.tmp 18) (.const (.bool true)) (.tmp 21), none⟩])
    (.cond (.tmp 22) (.seq (.region false [⟨(some 4), .mv (.const (.own 1 [])), none⟩,
         ⟨(some 5), .mv (.const (.int .i64 2)), none⟩])
      (.ret))
     (.skip)))
   (.seq (.region false [⟨(some 23), .mv (.tmp 0), none⟩,
       ⟨(some 24), .mksl 3 [(.int .i64 0)] (.tmp 23), none⟩,
       ⟨(some 6), .take 24, none⟩])
    (.seq (.seq (.region false [⟨(some 25), .mv (.tmp 6), none⟩,
         ⟨(some 26), .len .slice (.tmp 25), none⟩,
         ⟨(some 27), .mv (.const (.int .i64 0)), none⟩])
      (.block 0 (c_partition_Even_l0)))
     c_partition_Even_j1)))
def a_partition_Even : AFn := ⟨40, [.tmp 4, .tmp 5], c_partition_Even, false⟩
def p_partition_Even : List Nat := [11, 12, 15, 16, 19, 20, 21]
theorem t_partition_Even : cFn Tryz.prog takes Tryz.f18 = some a_partition_Even := by kernel_rfl
theorem n_partition_Even : (Tryz.f18.name == "runtime.NumGoroutine") = false := by kernel_rfl
def c_r34_Even_l0b : ACode :=
  .seq (.seq (.region false [⟨(some 23), .mv (.tmp 7), none⟩,
      ⟨(some 24), .mv (.tmp 0), none⟩,
      ⟨(some 25), .bin .lss .prim (.tmp 23) (.tmp 24), none⟩])
   (.cond (.tmp 25) (.skip)
    (.exit 0)))
  (.seq (.block 1 (.region false [⟨(some 28), .take 6, none⟩,
       ⟨(some 29), .mv (.tmp 7), none⟩,
       ⟨(some 30), .mv (.tmp 1), none⟩,
       ⟨(some 31), .bin .mul .prim (.tmp 29) (.tmp 30), none⟩,
       ⟨(some 32), .mv (.tmp 0), none⟩,
       ⟨(some 33), .bin .quo .prim (.tmp 31) (.tmp 32), none⟩,
       ⟨(some 34), .lit 3 1 [(.tmp 33)], none⟩,
       ⟨(some 35), .app 1 8 28 (.tmp 34), none⟩,
       ⟨(some 6), .take 35, none⟩]))
   (.region false [⟨(some 26), .mv (.tmp 7), none⟩,
      ⟨(some 27), .bin .add .prim (.tmp 26) (.const (.int .i64 1)), none⟩,
      ⟨(some 7), .take 27, none⟩]))
def c_r34_Even_l0 : ACode := .loop c_r34_Even_l0b
def c_r34_Even_j1 : ACode :=
  .seq (.region false [⟨(some 36), .take 6, none⟩,
     ⟨(some 4), .take 36, none⟩,
     ⟨(some 5), .mv (.const (.int .i64 0)), none⟩])
  (.ret)
/-- simulator/simulatorref34.Even -/
def c_r34_Even : ACode :=
  .seq (.region false [⟨(some 4), .mv (.const (.own 1 [])), none⟩,
     ⟨(some 5), .mv (.const (.int .i64 0)), none⟩])
  (.seq (.seq (.region false [⟨(some 8), .mv (.tmp 0), none⟩,
       ⟨(some 9), .bin .lss .prim (.tmp 8) (.const (.int .i64 1)), none⟩,
       ⟨(some 10), .mv (.tmp 9), none⟩,
       ⟨(some 11), .mv (.tmp 0), (some (10, false))⟩,
       ⟨(some 12), .bin .gtr .prim (.tmp 11) (.const (.int .i64 16)), (some (10, false))⟩,
       ⟨(some 13), .pick (.tmp 10) (.const (.bool true)) (.tmp 12), none⟩,
       ⟨(some 14), .mv (.tmp 13), none⟩,
       ⟨(some 15), .mv (.tmp 1), (some (14, false))⟩,
       ⟨(some 16), .bin .lss .prim (.tmp 15) (.const (.int .i64 1)), (some (14, false))⟩,
       ⟨(some 17), .pick (.tmp 14) (.const (.bool true)) (.tmp 16), none⟩,
       ⟨(some 18), .mv (.tmp 17), none⟩,
       ⟨(some 19), .mv (.tmp 1), (some (18, false))⟩,
       ⟨(some 20), .mv (.tmp 0), (some (18, false))⟩,
       ⟨(some 21), .bin .gtr .prim (.tmp 19) (.tmp 20), (some (18, false))⟩,
       ⟨(some 22), .pick (.tmp 18) (.const (.bool true)) (.tmp 21), none⟩])
    (.cond (.tmp 22) (.seq (.region false [⟨(some 4), .mv (.const (.own 1 [])), none⟩,
         ⟨(some 5), .mv (.const (.int .i64 2)), none⟩])
      (.ret))
     (.skip)))
   (.seq (.region false [⟨(some 6), .mv (.const (.own 1 [])), none⟩])
    (.seq (.seq (.region false [⟨(some 7), .mv (.const (.int .i64 0)), none⟩])
      (.block 0 (c_r34_Even_l0)))
     c_r34_Even_j1)))
def a_r34_Even : AFn := ⟨37, [.tmp 4, .tmp 5], c_r34_Even, false⟩
def p_r34_Even : List Nat := [11, 12, 15, 16, 19, 20, 21]
theorem t_r34_Even : cFn Tryz.prog takes Tryz.f19 = some a_r34_Even := by kernel_rfl
theorem n_r34_Even : (Tryz.f19.name == "runtime.NumGoroutine") = false := by kernel_rfl
def c_r34_SameInts_l0b : ACode :=
  .seq (.seq (.region false [⟨(some 11), .mv (.tmp 5), none⟩,
      ⟨(some 12), .mv (.tmp 0), none⟩,
      ⟨(some 13), .len .slice (.tmp 12), none⟩,
      ⟨(some 14), .bin .lss .prim (.tmp 11) (.tmp 13), none⟩])
   (.cond (.tmp 14) (.skip)
    (.exit 0)))
  (.seq (.block 1 (.seq (.region true [⟨(some 17), .mv (.tmp 0), none⟩,
        ⟨(some 18), .mv (.tmp 5), none⟩,
        ⟨(some 19), .ia (.slice 1) (.tmp 17) (.tmp 18), none⟩,
        ⟨(some 20), .ldc (.tmp 19), none⟩,
        ⟨(some 21), .mv (.tmp 1), none⟩,
        ⟨(some 22), .mv (.tmp 5), none⟩,
        ⟨(some 23), .ia (.slice 1) (.tmp 21) (.tmp 22), none⟩,
        ⟨(some 24), .ldc (.tmp 23), none⟩,
        ⟨(some 25), .bin .neq .prim (.tmp 20) (.tmp 24), none⟩])
     (.cond (.tmp 25) (.seq (.region false [⟨(some 4), .mv (.const (.bool false)), none⟩])
       (.ret))
      (.skip))))
   (.region false [⟨(some 15), .mv (.tmp 5), none⟩,
      ⟨(some 16), .bin .add .prim (.tmp 15) (.const (.int .i64 1)), none⟩,
      ⟨(some 5), .take 16, none⟩]))
def c_r34_SameInts_l0 : ACode := .loop c_r34_SameInts_l0b
def c_r34_SameInts_j1 : ACode :=
  .seq (.region false [⟨(some 4), .mv (.const (.bool true)), none⟩])
  (.ret)
/-- simulator/simulatorref34.SameInts -/
def c_r34_SameInts : ACode :=
  .seq (.region false [⟨(some 4), .mv (.const (.bool false)), none⟩])
  (.seq (.seq (.region false [⟨(some 6), .mv (.tmp 0), none⟩,
       ⟨(some 7), .len .slice (.tmp 6), none⟩,
       ⟨(some 8), .mv (.tmp 1), none⟩,
       ⟨(some 9), .len .slice (.tmp 8), none⟩,
       ⟨(some 10), .bin .neq .prim (.tmp 7) (.tmp 9), none⟩])
    (.cond (.tmp 10) (.seq (.region false [⟨(some 4), .mv (.const (.bool false)), none⟩])
      (.ret))
     (.skip)))
   (.seq (.seq (.region false [⟨(some 5), .mv (.const (.int .i64 0)), none⟩])
     (.block 0 (c_r34_SameInts_l0)))
    c_r34_SameInts_j1))
def a_r34_SameInts : AFn := ⟨26, [.tmp 4], c_r34_SameInts, false⟩
def p_r34_SameInts : List Nat := []
theorem t_r34_SameInts : cFn Tryz.prog takes Tryz.f20 = some a_r34_SameInts := by kernel_rfl
theorem n_r34_SameInts : (Tryz.f20.name == "runtime.NumGoroutine") = false := by kernel_rfl
def tab : List (Nat × AFn) := [(5, a_law34_PartitionEven), (18, a_partition_Even), (19, a_r34_Even), (20, a_r34_SameInts)]
theorem tab_ok : ∀ p ∈ tab, ∃ fn takes, Tryz.prog.funcs[p.1]? = some fn ∧ (fn.name == "runtime.NumGoroutine") = false ∧ cFn Tryz.prog takes fn = some p.2 := by
  intro p hp
  simp only [tab, List.mem_cons, List.not_mem_nil, or_false] at hp
  rcases hp with rfl | rfl | rfl | rfl
  · exact ⟨Tryz.f5, takes, Tryz.func5, n_law34_PartitionEven, t_law34_PartitionEven⟩
  · exact ⟨Tryz.f18, takes, Tryz.func18, n_partition_Even, t_partition_Even⟩
  · exact ⟨Tryz.f19, takes, Tryz.func19, n_r34_Even, t_r34_Even⟩
  · exact ⟨Tryz.f20, takes, Tryz.func20, n_r34_SameInts, t_r34_SameInts⟩
end Go.Proofs.YtgjcjbhhhlelnaaGreatDoor
