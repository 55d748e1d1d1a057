/- The code of the law in compact form is what is made of the translated code (no conditions). -/
import Derived.Test.YtohnmnbdmcoflaaGreatDoorDenC
import Derived.Test.YtohnmnbdmcoflaaGreatDoorProg
import Derived.KernelRfl
set_option linter.unusedVariables false
set_option linter.unusedSimpArgs false
set_option linter.unusedSectionVars false
set_option linter.deprecated false

/- The compact code of the functions (written by a program; checked below). -/
namespace Go.Proofs.YtohnmnbdmcoflaaGreatDoor
open Go Go.Den

def fn_law25_SchedGaps : Nat := 4
def fn_law25_wakes : Nat := 12
def fn_sched_Policy_Next : Nat := 13
def fn_sched_Gap : Nat := 14
def fn_ref25_Gap : Nat := 15
def fn_model_Begin : Nat := 23
def fn_machine_New : Nat := 28
def fn_Pmachine_Machine_Pick : Nat := 29
def fn_sched_Policy_May : Nat := 30
def fn_Pmachine_Machine_Ready : Nat := 31
def fn_Pmachine_Machine_Core : Nat := 32
def fn_runs_Runs_Has : Nat := 51
def fn_script_Script_May : Nat := 56
def fn_call_New : Nat := 57
def fn_task_Of : Nat := 58
def fn_Pcall_Core_Reap : Nat := 59
def fn_Pmachine_Machine_alive : Nat := 60
def fn_Pmachine_Machine_slays : Nat := 61
def fn_Pmachine_Machine_steps : Nat := 62
def fn_Pmachine_Machine_clear : Nat := 63
def fn_Pmachine_Machine_has : Nat := 64
def fn_Pmachine_Machine_waits : Nat := 65
def fn_slices_Clone_int_int : Nat := 66
def fn_model_State_Do : Nat := 68
def fn_mail_Box_All : Nat := 72
def fn_table_book_All : Nat := 73
def fn_table_Table_Get : Nat := 74
def fn_extent_Extent_Place : Nat := 75
def fn_Ppool_Pool_Read : Nat := 76
def fn_Pmachine_Machine_Under : Nat := 83
def fn_runs_Run_may : Nat := 88
def fn_slices_ContainsFunc_runs_Run_runs_Run : Nat := 89
def fn_runs_Runs_Has_1 : Nat := 90
def fn_runs_Run_holds : Nat := 91
def fn_script_Script_May_1 : Nat := 97
def fn_code_Decode : Nat := 98
def fn_slices_ContainsFunc_string_string : Nat := 99
def fn_slices_ContainsFunc_uint8_uint8 : Nat := 100
def fn_script_Script_May_2 : Nat := 101
def fn_script_pick : Nat := 102
def fn_pool_New : Nat := 103
def fn_Ppool_Pool_Back : Nat := 104
def fn_task_Task_Wants : Nat := 105
def fn_Pmachine_Machine_calls : Nat := 106
def fn_task_Task_Step : Nat := 107
def fn_Pcall_Core_Cut : Nat := 108
def fn_plan_Waits : Nat := 109
def fn_model_State_Needs : Nat := 110
def fn_Pmodel_caller_calls : Nat := 111
def fn_own_Owns_Of : Nat := 112
def fn_token_Tokens_Of : Nat := 114
def fn_handle_Handle_Slot : Nat := 115
def fn_token_Tokens_Get : Nat := 116
def fn_mail_Box_each : Nat := 118
def fn_slices_Clip_mail_Message_mail_Message : Nat := 119
def fn_handle_Book_Issued : Nat := 120
def fn_handle_Book_Good : Nat := 121
def fn_table_Table_up : Nat := 122
def fn_extent_Extent_chunks : Nat := 123
def fn_Ppool_Pool_byte : Nat := 124
def fn_Ppool_Pool_Read_1 : Nat := 125
def fn_slices_Clone_handle_Handle_handle_Handle : Nat := 130
def fn_mark_may : Nat := 131
def fn_slices_IndexFunc_runs_Run_runs_Run : Nat := 132
def fn_runs_Run_end : Nat := 133
def fn_code_May : Nat := 141
def fn_slices_IndexFunc_string_string : Nat := 142
def fn_slices_IndexFunc_uint8_uint8 : Nat := 143
def fn_runs_Of : Nat := 144
def fn_Ppool_Pool_lent : Nat := 145
def fn_Ppool_Pool_Back_1 : Nat := 146
def fn_runs_Runs_Give : Nat := 147
def fn_task_Task_instr : Nat := 148
def fn_task_Task_reg : Nat := 149
def fn_Pcall_Core_Step : Nat := 150
def fn_Pmachine_Machine_ended : Nat := 151
def fn_machine_handed : Nat := 152
def fn_task_Task_Step_1 : Nat := 153
def fn_task_Task_Step_2 : Nat := 154
def fn_task_Task_Step_3 : Nat := 155
def fn_task_Task_Step_4 : Nat := 156
def fn_task_Task_Step_5 : Nat := 157
def fn_task_Task_Step_6 : Nat := 158
def fn_Pcall_Core_queue : Nat := 159
def fn_mark_Marks_Gone : Nat := 160
def fn_plan_Check : Nat := 161
def fn_Pmodel_caller_calls_1 : Nat := 162
def fn_model_ask : Nat := 163
def fn_forest_Root : Nat := 164
def fn_token_Tokens_those : Nat := 167
def fn_token_Tokens_Of_1 : Nat := 168
def fn_mail_Box_each_1 : Nat := 170
def fn_mail_Box_at : Nat := 171
def fn_handle_Book_At : Nat := 172
def fn_extent_Extent_chunks_1 : Nat := 173
def fn_Ppool_Pool_byte_1 : Nat := 174
def fn_slices_ContainsFunc_code_Instr_code_Instr : Nat := 182
def fn_code_May_1 : Nat := 183
def fn_code_Instr_may : Nat := 184
def fn_runs_Runs_each : Nat := 185
def fn_Pcall_stepper_check : Nat := 186
def fn_Pcall_stepper_marks : Nat := 187
def fn_Pcall_stepper_claims : Nat := 188
def fn_Pcall_stepper_clears : Nat := 189
def fn_Pcall_stepper_commits : Nat := 190
def fn_task_Task_Takes : Nat := 191
def fn_mark_Marks_Free : Nat := 192
def fn_mark_line_without : Nat := 193
def fn_forest_above : Nat := 194
def fn_handle_of : Nat := 195
def fn_slices_IndexFunc_code_Instr_code_Instr : Nat := 204
def fn_slices_All_runs_Run_runs_Run : Nat := 205
def fn_Pcall_stepper_ends : Nat := 206
def fn_plan_Regions : Nat := 207
def fn_mark_Marks_Try : Nat := 208
def fn_Ppool_Pool_Claim : Nat := 209
def fn_Ppool_Pool_Clear : Nat := 210
def fn_model_State_Place : Nat := 211
def fn_Pcall_stepper_bytes : Nat := 212
def fn_Pcall_stepper_commits_1 : Nat := 213
def fn_Ppool_Pool_Write : Nat := 214
def fn_Pcall_stepper_commits_2 : Nat := 215
def fn_mark_line_place : Nat := 216
def fn_forest_above_1 : Nat := 217
def fn_slices_All_runs_Run_runs_Run_1 : Nat := 224
def fn_plan_Regions_1 : Nat := 225
def fn_plan_one : Nat := 226
def fn_plan_Regions_2 : Nat := 227
def fn_forest_Under : Nat := 228
def fn_plan_Regions_3 : Nat := 229
def fn_slices_Contains_handle_Handle_handle_Handle : Nat := 230
def fn_plan_Regions_4 : Nat := 231
def fn_plan_Regions_5 : Nat := 232
def fn_runs_Runs_Find : Nat := 233
def fn_runs_Runs_Take : Nat := 234
def fn_Ppool_Pool_Clear_1 : Nat := 235
def fn_slices_Clip_int_int : Nat := 236
def fn_Ppool_Pool_Write_1 : Nat := 237
def fn_slices_Index_uint8_uint8 : Nat := 238
def fn_slices_Collect_handle_Handle : Nat := 241
def fn_forest_under : Nat := 242
def fn_slices_Index_handle_Handle_handle_Handle : Nat := 243
def fn_runs_Runs_Take_1 : Nat := 244
def fn_slices_Concat_runs_Run_runs_Run : Nat := 245
def fn_slices_AppendSeq_handle_Handle_handle_Handle : Nat := 246
def fn_forest_under_1 : Nat := 247
def fn_forest_Kids : Nat := 248
def fn_slices_Reverse_handle_Handle_handle_Handle : Nat := 249
def fn_slices_Grow_runs_Run_runs_Run : Nat := 250
def fn_slices_DeleteFunc_handle_Handle_handle_Handle : Nat := 251
def fn_forest_Kids_1 : Nat := 252
def fn_slices_IndexFunc_handle_Handle_handle_Handle : Nat := 253
def fn_own_Owns_Held : Nat := 271
def fn_Pmodel_caller_dies : Nat := 275
def fn_sched_kinds_1 : Nat := 277
def fn_sched_kinds_1_1 : Nat := 278
def fn_sched_kinds_2 : Nat := 279
def fn_slices_Contains_uint8_uint8 : Nat := 280
def fn_sched_kinds_3 : Nat := 281
def fn_Pmodel_caller_exit : Nat := 300
def fn_Pmodel_caller_spawn : Nat := 302
def fn_model_fine : Nat := 305
def fn_Pmodel_caller_owns : Nat := 306
def fn_Pmodel_caller_gone : Nat := 316
def fn_Pmodel_caller_drops : Nat := 323
def fn_token_Tokens_Return : Nat := 324
def fn_mail_Box_Drain : Nat := 331
def fn_own_Owns_Roots : Nat := 332
def fn_own_Owns_those : Nat := 333
def fn_own_Owns_Held_1 : Nat := 334
def fn_own_bit : Nat := 335
def fn_own_Owns_Give : Nat := 338
def fn_token_Tokens_Clear : Nat := 343
def fn_forest_Fell : Nat := 344
def fn_own_Owns_say : Nat := 349
def fn_own_Owns_held : Nat := 350
def fn_own_Owns_Drop : Nat := 351
def fn_token_Tokens_Return_1 : Nat := 352
def fn_token_Tokens_Return_1_1 : Nat := 353
def fn_token_Tokens_without : Nat := 354
def fn_own_Owns_Roots_1 : Nat := 359
def fn_token_Tokens_On : Nat := 368
def fn_table_Table_Drop : Nat := 370
def fn_math_bits_OnesCount8 : Nat := 372
def fn_handle_Book_Void : Nat := 373
def fn_token_Tokens_On_1 : Nat := 375
def ty_int : Nat := 3
def ty_uint8 : Nat := 5
def ty_string : Nat := 9
def ty_api_Errno : Nat := 31
def ty_handle_Handle : Nat := 55
def ty_mail_Message : Nat := 80
def ty_runs_Run : Nat := 124
def ty_machine_Event : Nat := 126
def ty_code_Instr : Nat := 198
def g_sched_kinds : Nat := 0
def g_model_does : Nat := 2
def str_12baf84e : List UInt8 := [0, 1, 1, 2, 1, 2, 2, 3, 1, 2, 2, 3, 2, 3, 3, 4, 1, 2, 2, 3, 2, 3, 3, 4, 2, 3, 3, 4, 3, 4, 4, 5, 1, 2, 2, 3, 2, 3, 3, 4, 2, 3, 3, 4, 3, 4, 4, 5, 2, 3, 3, 4, 3, 4, 4, 5, 3, 4, 4, 5, 4, 5, 5, 6, 1, 2, 2, 3, 2, 3, 3, 4, 2, 3, 3, 4, 3, 4, 4, 5, 2, 3, 3, 4, 3, 4, 4, 5, 3, 4, 4, 5, 4, 5, 5, 6, 2, 3, 3, 4, 3, 4, 4, 5, 3, 4, 4, 5, 4, 5, 5, 6, 3, 4, 4, 5, 4, 5, 5, 6, 4, 5, 5, 6, 5, 6, 6, 7, 1, 2, 2, 3, 2, 3, 3, 4, 2, 3, 3, 4, 3, 4, 4, 5, 2, 3, 3, 4, 3, 4, 4, 5, 3, 4, 4, 5, 4, 5, 5, 6, 2, 3, 3, 4, 3, 4, 4, 5, 3, 4, 4, 5, 4, 5, 5, 6, 3, 4, 4, 5, 4, 5, 5, 6, 4, 5, 5, 6, 5, 6, 6, 7, 2, 3, 3, 4, 3, 4, 4, 5, 3, 4, 4, 5, 4, 5, 5, 6, 3, 4, 4, 5, 4, 5, 5, 6, 4, 5, 5, 6, 5, 6, 6, 7, 3, 4, 4, 5, 4, 5, 5, 6, 4, 5, 5, 6, 5, 6, 6, 7, 4, 5, 5, 6, 5, 6, 6, 7, 5, 6, 6, 7, 6, 7, 7, 8]
def repL (n : Nat) (l : List AV) : List AV := (List.replicate n l).flatten
def z1274_5285 : List AV := repL 32 [(.int .u32 0), (.bool false), (.bool false)] ++ repL 32 [(.int .u32 0), (.int .i64 0), .nils, (.int .i64 0), (.int .u32 0), (.int .u32 0), (.int .u32 0), (.int .u32 0), (.int .u32 0), (.int .u32 0), (.int .u32 0), (.int .u32 0)] ++ repL 32 [(.int .u32 0), (.int .u8 0), (.int .u8 0), (.int .u8 0)] ++ repL 32 [(.int .u32 0), (.bool false), (.bool false)] ++ repL 16 [(.int .u32 0), (.int .u8 0), (.int .u8 0), (.bool false), (.int .u32 0)] ++ repL 4 [(.int .u8 0), (.int .u64 0), (.int .u32 0), (.bool false)] ++ [(.int .i64 0), (.int .i64 0)] ++ repL 4 [(.bool false), (.int .u8 0), (.int .u64 0), (.int .u32 0)] ++ [(.bool false), (.int .i64 0), (.int .i64 0)] ++ repL 4 [(.bool false), (.int .u8 0), (.int .u64 0), (.int .u32 0)] ++ [(.bool false), (.int .i64 0), (.int .i64 0)] ++ repL 4 [(.bool false), (.int .u8 0), (.int .u64 0), (.int .u32 0)] ++ [(.bool false), (.int .i64 0), (.int .i64 0)] ++ repL 4 [(.bool false), (.int .u8 0), (.int .u64 0), (.int .u32 0)] ++ [(.bool false), (.int .i64 0), (.int .i64 0)] ++ repL 4 [(.bool false), (.int .u8 0), (.int .u64 0), (.int .u32 0)] ++ [(.bool false), (.int .i64 0), (.int .i64 0)] ++ repL 4 [(.bool false), (.int .u8 0), (.int .u64 0), (.int .u32 0)] ++ [(.bool false), (.int .i64 0), (.int .i64 0)] ++ repL 4 [(.bool false), (.int .u8 0), (.int .u64 0), (.int .u32 0)] ++ [(.bool false), (.int .i64 0), (.int .i64 0)] ++ repL 17 [(.bool false)] ++ [.nilp] ++ repL 32 [(.int .u8 0), (.int .i64 0), (.int .u8 0), (.int .u8 0), (.int .u8 0), (.int .u8 0), (.int .u8 0), (.int .u8 0), (.int .u8 0), (.int .u8 0)] ++ [.nils]
def z128_8087 : List AV := repL 32 [(.int .u32 0), (.int .u8 0), (.int .u8 0), (.int .u8 0)]
def z176_e02c : List AV := repL 32 [(.int .u32 0), (.bool false), (.bool false)] ++ repL 16 [(.int .u32 0), (.int .u8 0), (.int .u8 0), (.bool false), (.int .u32 0)]
def z195_2adf : List AV := [.nilp, .nils, (.int .i64 0)] ++ repL 8 [(.int .u64 0)] ++ [(.int .i64 0), (.int .u8 0)] ++ repL 4 [(.int .u32 0)] ++ [(.int .u64 0), (.bool false), .nils] ++ repL 3 [(.int .i64 0)] ++ [(.bool false), (.int .i64 0), .nils, (.int .i64 0)] ++ repL 8 [(.int .u64 0)] ++ [(.int .i64 0), (.int .u8 0)] ++ repL 4 [(.int .u32 0)] ++ [(.int .u64 0), (.bool false), .nils] ++ repL 3 [(.int .i64 0)] ++ [(.bool false), (.int .i64 0), .nils, (.int .i64 0)] ++ repL 8 [(.int .u64 0)] ++ [(.int .i64 0), (.int .u8 0)] ++ repL 4 [(.int .u32 0)] ++ [(.int .u64 0), (.bool false), .nils] ++ repL 3 [(.int .i64 0)] ++ [(.bool false), (.int .i64 0), .nils, (.int .i64 0)] ++ repL 8 [(.int .u64 0)] ++ [(.int .i64 0), (.int .u8 0)] ++ repL 4 [(.int .u32 0)] ++ [(.int .u64 0), (.bool false), .nils] ++ repL 3 [(.int .i64 0)] ++ [(.bool false), (.int .i64 0), .nils, (.int .i64 0)] ++ repL 8 [(.int .u64 0)] ++ [(.int .i64 0), (.int .u8 0)] ++ repL 4 [(.int .u32 0)] ++ [(.int .u64 0), (.bool false), .nils] ++ repL 3 [(.int .i64 0)] ++ [(.bool false), (.int .i64 0), .nils, (.int .i64 0)] ++ repL 8 [(.int .u64 0)] ++ [(.int .i64 0), (.int .u8 0)] ++ repL 4 [(.int .u32 0)] ++ [(.int .u64 0), (.bool false), .nils] ++ repL 3 [(.int .i64 0)] ++ [(.bool false), (.int .i64 0), .nils, (.int .i64 0)] ++ repL 8 [(.int .u64 0)] ++ [(.int .i64 0), (.int .u8 0)] ++ repL 4 [(.int .u32 0)] ++ [(.int .u64 0), (.bool false), .nils] ++ repL 3 [(.int .i64 0)] ++ [(.bool false), (.int .i64 0), .nils, (.int .i64 0)] ++ repL 8 [(.int .u64 0)] ++ [(.int .i64 0), (.int .u8 0)] ++ repL 4 [(.int .u32 0)] ++ [(.int .u64 0), (.bool false), .nils] ++ repL 3 [(.int .i64 0)] ++ [(.bool false), (.int .i64 0), (.int .i64 0), .nils]
def z2050_6829 : List AV := [(.int .i64 0), .nils] ++ repL 2048 [(.int .u8 0)]
def z320_96f1 : List AV := repL 32 [(.int .u8 0), (.int .i64 0), (.int .u8 0), (.int .u8 0), (.int .u8 0), (.int .u8 0), (.int .u8 0), (.int .u8 0), (.int .u8 0), (.int .u8 0)]
def z480_3a0d : List AV := repL 32 [(.int .u32 0), (.bool false), (.bool false)] ++ repL 32 [(.int .u32 0), (.int .i64 0), .nils, (.int .i64 0), (.int .u32 0), (.int .u32 0), (.int .u32 0), (.int .u32 0), (.int .u32 0), (.int .u32 0), (.int .u32 0), (.int .u32 0)]
def z952_2fb3 : List AV := repL 32 [(.int .u32 0), (.bool false), (.bool false)] ++ repL 32 [(.int .u32 0), (.int .i64 0), .nils, (.int .i64 0), (.int .u32 0), (.int .u32 0), (.int .u32 0), (.int .u32 0), (.int .u32 0), (.int .u32 0), (.int .u32 0), (.int .u32 0)] ++ repL 32 [(.int .u32 0), (.int .u8 0), (.int .u8 0), (.int .u8 0)] ++ repL 32 [(.int .u32 0), (.bool false), (.bool false)] ++ repL 16 [(.int .u32 0), (.int .u8 0), (.int .u8 0), (.bool false), (.int .u32 0)] ++ repL 4 [(.int .u8 0), (.int .u64 0), (.int .u32 0), (.bool false)] ++ [(.int .i64 0), (.int .i64 0)] ++ repL 4 [(.bool false), (.int .u8 0), (.int .u64 0), (.int .u32 0)] ++ [(.bool false), (.int .i64 0), (.int .i64 0)] ++ repL 4 [(.bool false), (.int .u8 0), (.int .u64 0), (.int .u32 0)] ++ [(.bool false), (.int .i64 0), (.int .i64 0)] ++ repL 4 [(.bool false), (.int .u8 0), (.int .u64 0), (.int .u32 0)] ++ [(.bool false), (.int .i64 0), (.int .i64 0)] ++ repL 4 [(.bool false), (.int .u8 0), (.int .u64 0), (.int .u32 0)] ++ [(.bool false), (.int .i64 0), (.int .i64 0)] ++ repL 4 [(.bool false), (.int .u8 0), (.int .u64 0), (.int .u32 0)] ++ [(.bool false), (.int .i64 0), (.int .i64 0)] ++ repL 4 [(.bool false), (.int .u8 0), (.int .u64 0), (.int .u32 0)] ++ [(.bool false), (.int .i64 0), (.int .i64 0)] ++ repL 4 [(.bool false), (.int .u8 0), (.int .u64 0), (.int .u32 0)] ++ [(.bool false), (.int .i64 0), (.int .i64 0)] ++ repL 17 [(.bool false)]
def z964_ded6 : List AV := repL 32 [(.int .u32 0), (.bool false), (.bool false)] ++ repL 32 [(.int .u32 0), (.int .i64 0), .nils, (.int .i64 0), (.int .u32 0), (.int .u32 0), (.int .u32 0), (.int .u32 0), (.int .u32 0), (.int .u32 0), (.int .u32 0), (.int .u32 0)] ++ repL 32 [(.int .u32 0), (.int .u8 0), (.int .u8 0), (.int .u8 0)] ++ repL 32 [(.int .u32 0), (.bool false), (.bool false)] ++ repL 16 [(.int .u32 0), (.int .u8 0), (.int .u8 0), (.bool false), (.int .u32 0)] ++ repL 4 [(.int .u8 0), (.int .u64 0), (.int .u32 0), (.bool false)] ++ [(.int .i64 0), (.int .i64 0)] ++ repL 4 [(.bool false), (.int .u8 0), (.int .u64 0), (.int .u32 0)] ++ [(.bool false), (.int .i64 0), (.int .i64 0)] ++ repL 4 [(.bool false), (.int .u8 0), (.int .u64 0), (.int .u32 0)] ++ [(.bool false), (.int .i64 0), (.int .i64 0)] ++ repL 4 [(.bool false), (.int .u8 0), (.int .u64 0), (.int .u32 0)] ++ [(.bool false), (.int .i64 0), (.int .i64 0)] ++ repL 4 [(.bool false), (.int .u8 0), (.int .u64 0), (.int .u32 0)] ++ [(.bool false), (.int .i64 0), (.int .i64 0)] ++ repL 4 [(.bool false), (.int .u8 0), (.int .u64 0), (.int .u32 0)] ++ [(.bool false), (.int .i64 0), (.int .i64 0)] ++ repL 4 [(.bool false), (.int .u8 0), (.int .u64 0), (.int .u32 0)] ++ [(.bool false), (.int .i64 0), (.int .i64 0)] ++ repL 4 [(.bool false), (.int .u8 0), (.int .u64 0), (.int .u32 0)] ++ [(.bool false), (.int .i64 0), (.int .i64 0)] ++ repL 17 [(.bool false)] ++ [(.int .i64 0), (.int .u8 0)] ++ repL 4 [(.int .u32 0)] ++ [(.int .u64 0)] ++ repL 3 [(.int .i64 0)] ++ [(.bool false), .nils]
def z96_9863 : List AV := repL 32 [(.int .u32 0), (.bool false), (.bool false)]

def pf_law25_SchedGaps : PF := ⟨44, [.t 6],
  (.seq (.reg [o 5 (.box (.t 2)), o 6 (.mov (.c (.bool false)))])
  (.seq (.seq (.reg [o 11 (.mov (.t 0)), o 12 (.len .sl (.t 11)), o 13 (.bin .gtr (.t 12) (ci 300))])
  (.cond (.t 13) (.seq (.reg [o 14 (.call (cf fn_law25_wakes) []), o 6 (.mov (.t 14))])
    .ret) .skip))
  (.seq (.reg [o 16 (.load true 6 (.t 5)), o 17 (.call (cf fn_sched_Policy_Next) [(.t 16), (.c .nilp)]), o 15 (.mov (.t 17)), o 18 (.ext (.t 15) 0), o 19 (.ext (.t 15) 1), o 20 (.ext (.t 15) 2), o 21 (.ext (.t 15) 3), o 7 (.alloc [(.int .u8 0), .nils, (.int .u64 0), (.int .i64 0), (.int .u8 0), (.int .i64 0)] none), u (.store 6 (.t 7) (.t 18)), o 8 (.mov (.t 19)), o 9 (.mov (.t 20)), o 10 (.mov (.t 21))])
  (.seq (.reg [o 22 (.mov (.t 0)), o 23 (.mov (.t 1)), o 24 (.call (cf fn_sched_Gap) [(.t 22), (.t 23)]), o 25 (.mov (.t 0)), o 26 (.mov (.t 1)), o 27 (.call (cf fn_ref25_Gap) [(.t 25), (.t 26)]), o 28 (.eq .int (.t 24) (.t 27)), o 29 (.mov (.t 28)), gt 29 (some 30) (.mov (.t 8)), gt 29 (some 31) (.eq .int (.t 30) (.c (.int .u8 0))), o 32 (.pick (.t 29) (.t 31) (.c (.bool false))), o 33 (.mov (.t 32)), gt 33 (some 34) (.mov (.t 9)), gt 33 (some 35) (.un .not (.t 34)), o 36 (.pick (.t 33) (.t 35) (.c (.bool false))), o 37 (.mov (.t 36)), gt 37 (some 38) (.mov (.t 10)), gt 37 (some 39) (.eq .int (.t 38) (ci 1)), o 40 (.pick (.t 37) (.t 39) (.c (.bool false))), o 41 (.mov (.t 40)), gt 41 (some 42) (.call (cf fn_law25_wakes) []), o 43 (.pick (.t 41) (.t 42) (.c (.bool false))), o 6 (.mov (.t 43))])
  .ret))))⟩

def l1_law25_wakes : PC :=
  (.seq (.seq (.reg [o 31 (.mov (.t 3)), o 32 (.bin .lss (.t 31) (ci 3))])
  (.cond (.t 32) .skip (.exit 0)))
  (.seq (.block 1 (.seq (.reg [o 35 (.mov (.t 1)), o 36 (.call (cf fn_Pmachine_Machine_Pick) [(.t 35), (.c (.int .u8 0))]), o 37 (.ne .int (.t 36) (ci 0))])
    (.cond (.t 37) (.seq (.reg [o 0 (.mov (.c (.bool false)))])
      .ret) .skip)))
  (.reg [o 33 (.mov (.t 3)), o 34 (.bin .add (.t 33) (ci 1)), o 3 (.mov (.t 34))])))
def pf_law25_wakes : PF := ⟨115, [.t 0],
  (.seq (.reg [o 0 (.mov (.c (.bool false)))])
  (.seq (.reg [o 20 (.bslice [(S [])] 1 [(0, 1, (.c (S [1, 6, 0, 0, 2, 0, 38, 0, 0, 0, 0, 0])))]), o 21 (.build [(.int .i64 0), .nils, .nils] [(0, 1, (ci 2)), (1, 1, (.t 20))]), o 22 (.call (cf fn_machine_New) [(.t 21)]), o 19 (.mov (.t 22)), o 23 (.ext (.t 19) 0), o 24 (.ext (.t 19) 1), o 1 (.mov (.t 23)), o 2 (.mov (.t 24))])
  (.seq (.seq (.reg [o 25 (.mov (.t 2)), o 26 (.ne .int (.t 25) (ci 0)), o 27 (.mov (.t 26)), gf 27 (some 28) (.mov (.t 1)), gf 27 (some 29) (.eq .ptr (.t 28) (.c .nilp)), o 30 (.pick (.t 27) (.c (.bool true)) (.t 29))])
  (.cond (.t 30) (.seq (.reg [o 0 (.mov (.c (.bool false)))])
    .ret) .skip))
  (.seq (.seq (.reg [o 3 (.mov (ci 0))])
  (.block 0 (.loop l1_law25_wakes)))
  (.seq (.reg [o 38 (.build [(.int .u8 0), .nils, (.int .u64 0), (.int .i64 0), (.int .u8 0), (.int .i64 0)] []), o 4 (.alloc [(.int .u8 0), .nils, (.int .u64 0), (.int .i64 0), (.int .u8 0), (.int .i64 0)] none), u (.store 6 (.t 4) (.t 38))])
  (.seq (.reg [o 40 (.load true 6 (.t 4)), o 41 (.mov (.t 1)), o 42 (.call (cf fn_sched_Policy_Next) [(.t 40), (.t 41)]), o 39 (.mov (.t 42)), o 43 (.ext (.t 39) 0), o 44 (.ext (.t 39) 1), o 45 (.ext (.t 39) 2), o 46 (.ext (.t 39) 3), u (.store 6 (.t 4) (.t 43)), o 5 (.mov (.t 44)), o 6 (.mov (.t 45)), o 7 (.mov (.t 46))])
  (.seq (.reg [o 48 (.load true 6 (.t 4)), o 49 (.mov (.t 1)), o 50 (.call (cf fn_sched_Policy_Next) [(.t 48), (.t 49)]), o 47 (.mov (.t 50)), o 51 (.ext (.t 47) 0), o 52 (.ext (.t 47) 1), o 53 (.ext (.t 47) 2), o 54 (.ext (.t 47) 3), u (.store 6 (.t 4) (.t 51)), o 8 (.mov (.t 52)), o 9 (.mov (.t 53)), o 10 (.mov (.t 54))])
  (.seq (.reg [o 56 (.load true 6 (.t 4)), o 57 (.mov (.t 1)), o 58 (.call (cf fn_sched_Policy_Next) [(.t 56), (.t 57)]), o 55 (.mov (.t 58)), o 59 (.ext (.t 55) 0), o 60 (.ext (.t 55) 1), o 61 (.ext (.t 55) 2), o 62 (.ext (.t 55) 3), o 11 (.alloc [(.int .u8 0), .nils, (.int .u64 0), (.int .i64 0), (.int .u8 0), (.int .i64 0)] none), u (.store 6 (.t 11) (.t 59)), o 12 (.mov (.t 60)), o 13 (.mov (.t 61)), o 14 (.mov (.t 62))])
  (.seq (.reg [o 64 (.build [(.int .u8 0), .nils, (.int .u64 0), (.int .i64 0), (.int .u8 0), (.int .i64 0)] [(0, 1, (.c (.int .u8 3)))]), o 65 (.mov (.t 1)), o 66 (.call (cf fn_sched_Policy_Next) [(.t 64), (.t 65)]), o 63 (.mov (.t 66)), o 67 (.ext (.t 63) 0), o 68 (.ext (.t 63) 1), o 69 (.ext (.t 63) 2), o 70 (.ext (.t 63) 3), o 15 (.alloc [(.int .u8 0), .nils, (.int .u64 0), (.int .i64 0), (.int .u8 0), (.int .i64 0)] none), u (.store 6 (.t 15) (.t 67)), o 16 (.mov (.t 68)), o 17 (.mov (.t 69)), o 18 (.mov (.t 70))])
  (.seq (.reg [o 71 (.mov (.t 6)), o 72 (.mov (.t 71)), gt 72 (some 73) (.mov (.t 7)), gt 72 (some 74) (.eq .int (.t 73) (ci 0)), o 75 (.pick (.t 72) (.t 74) (.c (.bool false))), o 76 (.mov (.t 75)), gt 76 (some 77) (.mov (.t 5)), gt 76 (some 78) (.eq .int (.t 77) (.c (.int .u8 0))), o 79 (.pick (.t 76) (.t 78) (.c (.bool false))), o 80 (.mov (.t 79)), gt 80 (some 81) (.mov (.t 9)), o 82 (.pick (.t 80) (.t 81) (.c (.bool false))), o 83 (.mov (.t 82)), gt 83 (some 84) (.mov (.t 10)), gt 83 (some 85) (.eq .int (.t 84) (ci 0)), o 86 (.pick (.t 83) (.t 85) (.c (.bool false))), o 87 (.mov (.t 86)), gt 87 (some 88) (.mov (.t 8)), gt 87 (some 89) (.eq .int (.t 88) (.c (.int .u8 2))), o 90 (.pick (.t 87) (.t 89) (.c (.bool false))), o 91 (.mov (.t 90)), gt 91 (some 92) (.mov (.t 13)), o 93 (.pick (.t 91) (.t 92) (.c (.bool false))), o 94 (.mov (.t 93)), gt 94 (some 95) (.mov (.t 14)), gt 94 (some 96) (.eq .int (.t 95) (ci 0)), o 97 (.pick (.t 94) (.t 96) (.c (.bool false))), o 98 (.mov (.t 97)), gt 98 (some 99) (.mov (.t 12)), gt 98 (some 100) (.eq .int (.t 99) (.c (.int .u8 0))), o 101 (.pick (.t 98) (.t 100) (.c (.bool false))), o 102 (.mov (.t 101)), gt 102 (some 103) (.mov (.t 17)), gt 102 (some 104) (.un .not (.t 103)), o 105 (.pick (.t 102) (.t 104) (.c (.bool false))), o 106 (.mov (.t 105)), gt 106 (some 107) (.mov (.t 18)), gt 106 (some 108) (.eq .int (.t 107) (ci 2)), o 109 (.pick (.t 106) (.t 108) (.c (.bool false))), o 110 (.mov (.t 109)), gt 110 (some 111) (.bslice [(.int .u8 0)] 5 [(0, 1, (.c (.int .u8 1))), (1, 1, (.c (.int .u8 0))), (2, 1, (.c (.int .u8 1))), (3, 1, (.c (.int .u8 1))), (4, 1, (.c (.int .u8 0)))]), gt 110 (some 112) (.call (cf fn_sched_Gap) [(.t 111), (.c (.int .u8 0))]), gt 110 (some 113) (.eq .int (.t 112) (ci 2)), o 114 (.pick (.t 110) (.t 113) (.c (.bool false))), o 0 (.mov (.t 114))])
  .ret))))))))))⟩

def l1_sched_Policy_Next : PC :=
  (.seq (.reg [o 23 (.bin .lss (.t 22) (.c (.int .u8 8)))])
  (.seq (.cond (.t 23) .skip (.exit 1))
  (.seq (.block 2 (.seq (.reg [o 24 (.mov (.t 22)), o 9 (.mov (.t 24))])
    (.seq (.reg [o 25 (.mov (.t 1)), o 26 (.mov (.t 9)), o 27 (.conv .i64 (.t 26)), o 28 (.call (cf fn_Pmachine_Machine_Ready) [(.t 25), (.t 27)])])
    (.cond (.t 28) (.reg [o 29 (.mov (.t 8)), o 30 (.mov (.t 9)), o 31 (.bslice [(.int .u8 0)] 1 [(0, 1, (.t 30))]), o 32 (.append ty_uint8 1 1 (.t 29) (.t 31)), o 8 (.mov (.t 32))]) .skip))))
  (.reg [o 33 (.bin .add (.t 22) (.c (.int .u8 1))), o 22 (.mov (.t 33))]))))
def pf_sched_Policy_Next : PF := ⟨82, [.cell 4 true 6, .t 5, .t 6, .t 7],
  (.seq (.reg [o 2 (.box (.t 0)), o 4 (.alloc [(.int .u8 0), .nils, (.int .u64 0), (.int .i64 0), (.int .u8 0), (.int .i64 0)] none), o 5 (.mov (.c (.int .u8 0))), o 6 (.mov (.c (.bool false))), o 7 (.mov (ci 0))])
  (.seq (.block 0 (.seq (.reg [o 14 (.mov (.t 1)), o 15 (.eq .ptr (.t 14) (.c .nilp)), o 13 (.mov (.t 15))])
    (.cond (.t 13) (.seq (.reg [o 16 (.load true 6 (.t 2)), u (.store 6 (.t 4) (.t 16)), o 5 (.mov (.c (.int .u8 0))), o 6 (.mov (.c (.bool false))), o 7 (.mov (ci 1))])
      .ret) (.seq (.reg [o 18 (.load true 6 (.t 2)), o 19 (.call (cf fn_sched_Policy_May) [(.t 18)]), o 20 (.un .not (.t 19)), o 17 (.mov (.t 20))])
      (.cond (.t 17) (.seq (.reg [o 21 (.load true 6 (.t 2)), u (.store 6 (.t 4) (.t 21)), o 5 (.mov (.c (.int .u8 0))), o 6 (.mov (.c (.bool false))), o 7 (.mov (ci 2))])
        .ret) .skip)))))
  (.seq (.reg [o 8 (.mov (.c .nils))])
  (.seq (.seq (.reg [o 22 (.mov (.c (.int .u8 0)))])
  (.block 1 (.loop l1_sched_Policy_Next)))
  (.seq (.reg [o 34 (.mov (.t 1)), o 35 (.call (cf fn_Pmachine_Machine_Core) [(.t 34)]), o 36 (.fld false 1 1273 (.t 35)), o 37 (.len .sl (.t 36)), o 38 (.bin .gtr (.t 37) (ci 0)), o 10 (.mov (.t 38))])
  (.seq (.reg [o 39 (.faddr 3 (.t 2)), o 40 (.load false 1 (.t 39)), o 41 (.bin .gtr (.t 40) (ci 0)), o 42 (.mov (.t 41)), gt 42 (some 43) (.faddr 5 (.t 2)), gt 42 (some 44) (.load false 1 (.t 43)), gt 42 (some 45) (.faddr 3 (.t 2)), gt 42 (some 46) (.load false 1 (.t 45)), gt 42 (some 47) (.bin .geq (.t 44) (.t 46)), o 48 (.pick (.t 42) (.t 47) (.c (.bool false))), o 11 (.mov (.t 48))])
  (.seq (.block 3 (.seq (.reg [o 50 (.mov (.t 10)), o 51 (.mov (.t 50)), gt 51 (some 52) (.mov (.t 11)), gt 51 (some 53) (.mov (.t 52)), gf 53 (some 54) (.mov (.t 8)), gf 53 (some 55) (.len .sl (.t 54)), gf 53 (some 56) (.eq .int (.t 55) (ci 0)), gt 51 (some 57) (.pick (.t 53) (.c (.bool true)) (.t 56)), o 58 (.pick (.t 51) (.t 57) (.c (.bool false))), o 49 (.mov (.t 58))])
    (.cond (.t 49) (.seq (.reg [o 59 (.faddr 5 (.t 2)), u (.store 1 (.t 59) (ci 0))])
      (.seq (.reg [o 60 (.load true 6 (.t 2)), u (.store 6 (.t 4) (.t 60)), o 5 (.mov (.c (.int .u8 8))), o 6 (.mov (.c (.bool true))), o 7 (.mov (ci 0))])
      .ret)) (.seq (.reg [o 62 (.mov (.t 8)), o 63 (.len .sl (.t 62)), o 64 (.eq .int (.t 63) (ci 0)), o 61 (.mov (.t 64))])
      (.cond (.t 61) (.seq (.reg [o 65 (.load true 6 (.t 2)), u (.store 6 (.t 4) (.t 65)), o 5 (.mov (.c (.int .u8 0))), o 6 (.mov (.c (.bool false))), o 7 (.mov (ci 0))])
        .ret) .skip)))))
  (.seq (.reg [o 66 (.load false 1 (.c (.glob g_sched_kinds))), o 67 (.faddr 0 (.t 2)), o 68 (.load false 1 (.t 67)), o 69 (.lookup .int .nilf (.t 66) (.t 68) false), o 70 (.mov (.t 8)), o 71 (.call (.t 69) [(.t 2), (.t 70)]), o 12 (.mov (.t 71))])
  (.seq (.reg [o 72 (.mov (.t 12)), o 73 (.bin .add (.t 72) (.c (.int .u8 1))), o 74 (.faddr 4 (.t 2)), u (.store 1 (.t 74) (.t 73))])
  (.seq (.reg [o 75 (.faddr 5 (.t 2)), o 76 (.load false 1 (.t 75)), o 77 (.bin .add (.t 76) (ci 1)), o 78 (.min [(.t 77), (ci 100)]), o 79 (.faddr 5 (.t 2)), u (.store 1 (.t 79) (.t 78))])
  (.seq (.reg [o 80 (.load true 6 (.t 2)), o 81 (.mov (.t 12)), u (.store 6 (.t 4) (.t 80)), o 5 (.mov (.t 81)), o 6 (.mov (.c (.bool true))), o 7 (.mov (ci 0))])
  .ret)))))))))))⟩

def l1_sched_Gap : PC :=
  (.seq (.reg [o 12 (.bin .lss (.t 11) (.t 10))])
  (.seq (.cond (.t 12) .skip (.exit 0))
  (.seq (.block 1 (.seq (.reg [o 13 (.iaddrs 1 (.t 9) (.t 11)), o 14 (.load false 1 (.t 13)), o 8 (.mov (.t 14))])
    (.seq (.reg [o 15 (.mov (.t 6)), o 16 (.bin .add (.t 15) (ci 1)), o 6 (.mov (.t 16))])
    (.seq (.seq (.reg [o 17 (.mov (.t 8)), o 18 (.mov (.t 1)), o 19 (.eq .int (.t 17) (.t 18))])
    (.cond (.t 19) (.reg [o 6 (.mov (ci 0))]) .skip))
    (.reg [o 20 (.mov (.t 5)), o 21 (.mov (.t 6)), o 22 (.max [(.t 20), (.t 21)]), o 5 (.mov (.t 22))])))))
  (.reg [o 23 (.bin .add (.t 11) (ci 1)), o 11 (.mov (.t 23))]))))
def pf_sched_Gap : PF := ⟨25, [.t 4],
  (.seq (.reg [o 4 (.mov (ci 0))])
  (.seq (.reg [o 5 (.mov (ci 0)), o 6 (.mov (ci 0))])
  (.seq (.seq (.reg [o 9 (.mov (.t 0)), o 10 (.len .sl (.t 9)), o 11 (.mov (ci 0))])
  (.block 0 (.loop l1_sched_Gap)))
  (.seq (.reg [o 24 (.mov (.t 5)), o 4 (.mov (.t 24))])
  .ret))))⟩

def l2_ref25_Gap : PC :=
  (.seq (.seq (.reg [o 16 (.mov (.t 8)), o 17 (.mov (.t 0)), o 18 (.len .sl (.t 17)), o 19 (.bin .lss (.t 16) (.t 18)), o 20 (.mov (.t 19)), gt 20 (some 21) (.mov (.t 0)), gt 20 (some 22) (.mov (.t 8)), gt 20 (some 23) (.iaddrs 1 (.t 21) (.t 22)), gt 20 (some 24) (.load false 1 (.t 23)), gt 20 (some 25) (.mov (.t 1)), gt 20 (some 26) (.ne .int (.t 24) (.t 25)), o 27 (.pick (.t 20) (.t 26) (.c (.bool false)))])
  (.cond (.t 27) .skip (.exit 2)))
  (.seq (.block 3 (.reg [o 30 (.mov (.t 7)), o 31 (.bin .add (.t 30) (ci 1)), o 7 (.mov (.t 31))]))
  (.reg [o 28 (.mov (.t 8)), o 29 (.bin .add (.t 28) (ci 1)), o 8 (.mov (.t 29))])))
def l1_ref25_Gap : PC :=
  (.seq (.seq (.reg [o 9 (.mov (.t 6)), o 10 (.mov (.t 0)), o 11 (.len .sl (.t 10)), o 12 (.bin .lss (.t 9) (.t 11))])
  (.cond (.t 12) .skip (.exit 0)))
  (.seq (.block 1 (.seq (.reg [o 7 (.mov (ci 0))])
    (.seq (.seq (.reg [o 15 (.mov (.t 6)), o 8 (.mov (.t 15))])
    (.block 2 (.loop l2_ref25_Gap)))
    (.seq (.reg [o 32 (.mov (.t 7)), o 33 (.mov (.t 5)), o 34 (.bin .gtr (.t 32) (.t 33))])
    (.cond (.t 34) (.reg [o 35 (.mov (.t 7)), o 5 (.mov (.t 35))]) .skip)))))
  (.reg [o 13 (.mov (.t 6)), o 14 (.bin .add (.t 13) (ci 1)), o 6 (.mov (.t 14))])))
def pf_ref25_Gap : PF := ⟨37, [.t 4],
  (.seq (.reg [o 4 (.mov (ci 0))])
  (.seq (.reg [o 5 (.mov (ci 0))])
  (.seq (.seq (.reg [o 6 (.mov (ci 0))])
  (.block 0 (.loop l1_ref25_Gap)))
  (.seq (.reg [o 36 (.mov (.t 5)), o 4 (.mov (.t 36))])
  .ret))))⟩

def pf_model_Begin : PF := ⟨7, [.cell 0 true 952],
  (.seq (.reg [o 0 (.alloc z952_2fb3 none)])
  (.seq (.reg [o 1 (.alloc z952_2fb3 none)])
  (.seq (.reg [o 2 (.faddr 936 (.t 1)), o 3 (.iaddra 8 1 (.t 2) (ci 0)), u (.store 1 (.t 3) (.c (.bool true))), o 4 (.faddr 944 (.t 1)), o 5 (.iaddra 8 1 (.t 4) (ci 0)), u (.store 1 (.t 5) (.c (.bool true)))])
  (.seq (.reg [o 6 (.load true 952 (.t 1)), u (.store 952 (.t 0) (.t 6))])
  .ret))))⟩

def l1_machine_New : PC :=
  (.seq (.reg [o 25 (.bin .lss (.t 24) (.t 23))])
  (.seq (.cond (.t 25) .skip (.exit 0))
  (.seq (.block 1 (.seq (.reg [o 26 (.mov (.t 24)), o 27 (.iaddrs 1 (.t 22) (.t 24)), o 28 (.load false 1 (.t 27)), o 5 (.mov (.t 26)), o 6 (.mov (.t 28))])
    (.dreg [(o 30 (.mov (.t 4)), []), (o 31 (.mov (.t 5)), []), (o 32 (.mov (.t 6)), []), (o 33 (.call (cf fn_task_Of) [(.t 32)]), []), (o 29 (.mov (.t 33)), []), (o 34 (.ext (.t 29) 0), []), (o 35 (.ext (.t 29) 1), []), (o 36 (.nilck (.t 30)), []), (o 37 (.faddr 1 (.t 36)), []), (o 38 (.iaddra 8 24 (.t 37) (.t 31)), []), (o 39 (.faddr 0 (.t 38)), []), (u (.store 10 (.t 39) (.t 34)), [])])))
  (.reg [o 40 (.bin .add (.t 24) (ci 1)), o 24 (.mov (.t 40))]))))
def pf_machine_New : PF := ⟨42, [.t 2, .t 3],
  (.seq (.reg [o 1 (.box (.t 0)), o 2 (.mov (.c .nilp)), o 3 (.mov (ci 0))])
  (.seq (.seq (.reg [o 7 (.load true 3 (.t 1)), o 8 (.call (cf fn_script_Script_May) [(.t 7)]), o 9 (.un .not (.t 8))])
  (.cond (.t 9) (.seq (.reg [o 2 (.mov (.c .nilp)), o 3 (.mov (ci 3))])
    .ret) .skip))
  (.seq (.reg [o 10 (.build z195_2adf []), o 11 (.box (.t 10)), o 4 (.mov (.t 11))])
  (.seq (.reg [o 13 (.mov (.t 4)), o 14 (.faddr 0 (.t 1)), o 15 (.load false 1 (.t 14)), o 16 (.call (cf fn_call_New) [(.t 15)]), o 12 (.mov (.t 16)), o 17 (.ext (.t 12) 0), o 18 (.ext (.t 12) 1), o 19 (.nilck (.t 13)), o 20 (.faddr 0 (.t 19)), u (.store 1 (.t 20) (.t 17))])
  (.seq (.seq (.reg [o 21 (.faddr 1 (.t 1)), o 22 (.load false 1 (.t 21)), o 23 (.len .sl (.t 22)), o 24 (.mov (ci 0))])
  (.block 0 (.loop l1_machine_New)))
  (.seq (.reg [o 41 (.mov (.t 4)), o 2 (.mov (.t 41)), o 3 (.mov (ci 0))])
  .ret))))))⟩

def pf_Pmachine_Machine_Pick : PF := ⟨69, [.t 4],
  (.seq (.reg [o 4 (.mov (ci 0))])
  (.seq (.seq (.reg [o 6 (.mov (.t 1)), o 7 (.bin .rem (.t 6) (.c (.int .u8 8))), o 8 (.conv .i64 (.t 7)), o 5 (.mov (.t 8))])
  (.block 0 (.seq (.reg [o 20 (.mov (.t 0)), o 21 (.eq .ptr (.t 20) (.c .nilp)), o 19 (.mov (.t 21))])
    (.cond (.t 19) (.seq (.reg [o 4 (.mov (ci 1))])
      .ret) (.seq (.reg [o 23 (.mov (.t 1)), o 24 (.bin .gtr (.t 23) (.c (.int .u8 8))), o 25 (.mov (.t 24)), gt 25 (some 26) (.mov (.t 1)), gt 25 (some 27) (.bin .lss (.t 26) (.c (.int .u8 16))), o 28 (.pick (.t 25) (.t 27) (.c (.bool false))), o 29 (.mov (.t 28)), gf 29 (some 30) (.mov (.t 1)), gf 29 (some 31) (.bin .geq (.t 30) (.c (.int .u8 24))), o 32 (.pick (.t 29) (.c (.bool true)) (.t 31)), o 22 (.mov (.t 32))])
      (.cond (.t 22) (.seq (.reg [o 4 (.mov (ci 2))])
        .ret) (.seq (.reg [o 34 (.mov (.t 1)), o 35 (.eq .int (.t 34) (.c (.int .u8 8))), o 33 (.mov (.t 35))])
        (.cond (.t 33) (.seq (.seq (.reg [o 36 (.mov (.t 0)), o 37 (.nilck (.t 36)), o 38 (.faddr 0 (.t 37)), o 39 (.load false 1 (.t 38)), o 40 (.call (cf fn_Pcall_Core_Reap) [(.t 39)]), o 41 (.un .not (.t 40))])
          (.cond (.t 41) (.seq (.reg [o 4 (.mov (ci 10))])
            .ret) .skip))
          (.reg [o 42 (.mov (.t 0)), o 43 (.nilck (.t 42)), o 44 (.faddr 193 (.t 43)), o 45 (.load false 1 (.t 44)), o 46 (.bin .add (.t 45) (ci 1)), o 47 (.nilck (.t 42)), o 48 (.faddr 193 (.t 47)), u (.store 1 (.t 48) (.t 46))])) (.seq (.reg [o 50 (.mov (.t 0)), o 51 (.mov (.t 5)), o 52 (.call (cf fn_Pmachine_Machine_alive) [(.t 50), (.t 51)]), o 53 (.un .not (.t 52)), o 49 (.mov (.t 53))])
          (.cond (.t 49) (.seq (.reg [o 4 (.mov (ci 12))])
            .ret) (.seq (.reg [o 55 (.mov (.t 1)), o 56 (.bin .geq (.t 55) (.c (.int .u8 16))), o 54 (.mov (.t 56))])
            (.cond (.t 54) (.seq (.reg [o 57 (.mov (.t 0)), o 58 (.nilck (.t 57)), o 59 (.faddr 193 (.t 58)), o 60 (.load false 1 (.t 59)), o 61 (.bin .add (.t 60) (ci 1)), o 62 (.nilck (.t 57)), o 63 (.faddr 193 (.t 62)), u (.store 1 (.t 63) (.t 61))])
              (.reg [o 64 (.mov (.t 0)), o 65 (.mov (.t 5)), o 66 (.call (cf fn_Pmachine_Machine_slays) [(.t 64), (.t 65)])])) (.seq (.reg [o 9 (.mov (.t 0)), o 10 (.nilck (.t 9)), o 11 (.faddr 193 (.t 10)), o 12 (.load false 1 (.t 11)), o 13 (.bin .add (.t 12) (ci 1)), o 14 (.nilck (.t 9)), o 15 (.faddr 193 (.t 14)), u (.store 1 (.t 15) (.t 13))])
              (.reg [o 16 (.mov (.t 0)), o 17 (.mov (.t 5)), o 18 (.call (cf fn_Pmachine_Machine_steps) [(.t 16), (.t 17)])]))))))))))))))
  (.seq (.reg [o 67 (.mov (.t 0)), o 68 (.call (cf fn_Pmachine_Machine_clear) [(.t 67)])])
  (.seq (.reg [o 4 (.mov (ci 0))])
  .ret))))⟩

def pf_sched_Policy_May : PF := ⟨29, [.t 2],
  (.seq (.reg [o 1 (.box (.t 0)), o 2 (.mov (.c (.bool false)))])
  (.seq (.reg [o 6 (.load false 1 (.c (.glob g_sched_kinds))), o 7 (.faddr 0 (.t 1)), o 8 (.load false 1 (.t 7)), o 9 (.lookup .int .nilf (.t 6) (.t 8) true), o 5 (.mov (.t 9)), o 10 (.ext (.t 5) 0), o 11 (.ext (.t 5) 1), o 3 (.mov (.t 10)), o 4 (.mov (.t 11))])
  (.seq (.reg [o 12 (.mov (.t 4)), o 13 (.mov (.t 12)), gt 13 (some 14) (.faddr 1 (.t 1)), gt 13 (some 15) (.load false 1 (.t 14)), gt 13 (some 16) (.len .sl (.t 15)), gt 13 (some 17) (.bin .leq (.t 16) (ci 16)), o 18 (.pick (.t 13) (.t 17) (.c (.bool false))), o 19 (.mov (.t 18)), gt 19 (some 20) (.faddr 3 (.t 1)), gt 19 (some 21) (.load false 1 (.t 20)), gt 19 (some 22) (.bin .geq (.t 21) (ci 0)), o 23 (.pick (.t 19) (.t 22) (.c (.bool false))), o 24 (.mov (.t 23)), gt 24 (some 25) (.faddr 3 (.t 1)), gt 24 (some 26) (.load false 1 (.t 25)), gt 24 (some 27) (.bin .leq (.t 26) (ci 100)), o 28 (.pick (.t 24) (.t 27) (.c (.bool false))), o 2 (.mov (.t 28))])
  .ret)))⟩

def pf_Pmachine_Machine_Ready : PF := ⟨19, [.t 4],
  (.seq (.reg [o 4 (.mov (.c (.bool false)))])
  (.seq (.reg [o 5 (.mov (.t 0)), o 6 (.mov (.t 1)), o 7 (.call (cf fn_Pmachine_Machine_has) [(.t 5), (.t 6)]), o 8 (.mov (.t 7)), gt 8 (some 9) (.mov (.t 0)), gt 8 (some 10) (.mov (.t 1)), gt 8 (some 11) (.call (cf fn_Pmachine_Machine_alive) [(.t 9), (.t 10)]), o 12 (.pick (.t 8) (.t 11) (.c (.bool false))), o 13 (.mov (.t 12)), gt 13 (some 14) (.mov (.t 0)), gt 13 (some 15) (.mov (.t 1)), gt 13 (some 16) (.call (cf fn_Pmachine_Machine_waits) [(.t 14), (.t 15)]), gt 13 (some 17) (.un .not (.t 16)), o 18 (.pick (.t 13) (.t 17) (.c (.bool false))), o 4 (.mov (.t 18))])
  .ret))⟩

def pf_Pmachine_Machine_Core : PF := ⟨18, [.cell 2 true 1274],
  (.seq (.reg [o 2 (.alloc z1274_5285 none)])
  (.seq (.seq (.reg [o 4 (.mov (.t 0)), o 5 (.eq .ptr (.t 4) (.c .nilp))])
  (.cond (.t 5) (.seq (.reg [o 6 (.build z1274_5285 []), u (.store 1274 (.t 2) (.t 6))])
    .ret) .skip))
  (.seq (.reg [o 7 (.mov (.t 0)), o 8 (.nilck (.t 7)), o 9 (.faddr 0 (.t 8)), o 10 (.load false 1 (.t 9)), o 11 (.nilck (.t 10)), o 12 (.load true 1274 (.t 11)), o 3 (.alloc z1274_5285 none), u (.store 1274 (.t 3) (.t 12))])
  (.seq (.reg [o 13 (.faddr 1273 (.t 3)), o 14 (.load false 1 (.t 13)), o 15 (.call (cf fn_slices_Clone_int_int) [(.t 14)]), o 16 (.faddr 1273 (.t 3)), u (.store 1 (.t 16) (.t 15))])
  (.seq (.reg [o 17 (.load true 1274 (.t 3)), u (.store 1274 (.t 2) (.t 17))])
  .ret)))))⟩

def pf_runs_Runs_Has : PF := ⟨16, [.t 4],
  (.seq (.reg [o 2 (.box (.t 0)), o 4 (.mov (.c (.bool false)))])
  (.seq (.reg [o 6 (.mov (.t 1)), o 7 (.build [(.int .i64 0), (.int .i64 0)] [(0, 1, (.t 6)), (1, 1, (ci 1))]), o 5 (.alloc [(.int .i64 0), (.int .i64 0)] none), u (.store 2 (.t 5) (.t 7))])
  (.seq (.reg [o 8 (.load true 2 (.t 5)), o 9 (.call (cf fn_runs_Run_may) [(.t 8)]), o 10 (.mov (.t 9)), gt 10 (some 11) (.faddr 0 (.t 2)), gt 10 (some 12) (.load false 1 (.t 11)), gt 10 (some 13) (.mkf (.func fn_runs_Runs_Has_1) [] [(.t 5)]), gt 10 (some 14) (.call (cf fn_slices_ContainsFunc_runs_Run_runs_Run) [(.t 12), (.t 13)]), o 15 (.pick (.t 10) (.t 14) (.c (.bool false))), o 4 (.mov (.t 15))])
  .ret)))⟩

def pf_script_Script_May : PF := ⟨41, [.t 2],
  (.seq (.reg [o 1 (.box (.t 0)), o 2 (.mov (.c (.bool false)))])
  (.seq (.reg [o 5 (.faddr 1 (.t 1)), o 6 (.load false 1 (.t 5)), o 7 (.len .sl (.t 6)), o 3 (.mov (.t 7))])
  (.seq (.seq (.reg [o 8 (.faddr 0 (.t 1)), o 9 (.load false 1 (.t 8)), o 10 (.bin .lss (.t 9) (ci 1)), o 11 (.mov (.t 10)), gf 11 (some 12) (.faddr 0 (.t 1)), gf 11 (some 13) (.load false 1 (.t 12)), gf 11 (some 14) (.bin .gtr (.t 13) (ci 64)), o 15 (.pick (.t 11) (.c (.bool true)) (.t 14)), o 16 (.mov (.t 15)), gf 16 (some 17) (.mov (.t 3)), gf 16 (some 18) (.bin .lss (.t 17) (ci 1)), o 19 (.pick (.t 16) (.c (.bool true)) (.t 18)), o 20 (.mov (.t 19)), gf 20 (some 21) (.mov (.t 3)), gf 20 (some 22) (.bin .gtr (.t 21) (ci 8)), o 23 (.pick (.t 20) (.c (.bool true)) (.t 22)), o 24 (.mov (.t 23)), gf 24 (some 25) (.faddr 2 (.t 1)), gf 24 (some 26) (.load false 1 (.t 25)), gf 24 (some 27) (.len .sl (.t 26)), gf 24 (some 28) (.bin .gtr (.t 27) (ci 4000)), o 29 (.pick (.t 24) (.c (.bool true)) (.t 28))])
  (.cond (.t 29) (.seq (.reg [o 2 (.mov (.c (.bool false)))])
    .ret) .skip))
  (.seq (.reg [o 4 (.mov (cf fn_script_Script_May_1))])
  (.seq (.reg [o 30 (.faddr 1 (.t 1)), o 31 (.load false 1 (.t 30)), o 32 (.mov (.t 4)), o 33 (.call (cf fn_slices_ContainsFunc_string_string) [(.t 31), (.t 32)]), o 34 (.un .not (.t 33)), o 35 (.mov (.t 34)), gt 35 (some 36) (.faddr 2 (.t 1)), gt 35 (some 37) (.load false 1 (.t 36)), gt 35 (some 38) (.call (cf fn_slices_ContainsFunc_uint8_uint8) [(.t 37), (cf fn_script_Script_May_2)]), gt 35 (some 39) (.un .not (.t 38)), o 40 (.pick (.t 35) (.t 39) (.c (.bool false))), o 2 (.mov (.t 40))])
  .ret)))))⟩

def pf_call_New : PF := ⟨18, [.t 2, .t 3],
  (.seq (.reg [o 2 (.mov (.c .nilp)), o 3 (.mov (ci 0))])
  (.seq (.reg [o 7 (.mov (.t 0)), o 8 (.call (cf fn_pool_New) [(.t 7)]), o 6 (.mov (.t 8)), o 9 (.ext (.t 6) 0), o 10 (.ext (.t 6) 1), o 4 (.mov (.t 9)), o 5 (.mov (.t 10))])
  (.seq (.seq (.reg [o 11 (.mov (.t 5)), o 12 (.ne .int (.t 11) (ci 0))])
  (.cond (.t 12) (.seq (.reg [o 13 (.mov (.t 5)), o 2 (.mov (.c .nilp)), o 3 (.mov (.t 13))])
    .ret) .skip))
  (.seq (.reg [o 14 (.call (cf fn_model_Begin) []), o 15 (.mov (.t 4)), o 16 (.build z1274_5285 [(0, 952, (.t 14)), (952, 1, (.t 15))]), o 17 (.box (.t 16)), o 2 (.mov (.t 17)), o 3 (.mov (ci 0))])
  .ret))))⟩

def pf_task_Of : PF := ⟨17, [.cell 2 true 10, .t 3],
  (.seq (.reg [o 2 (.alloc [.nils, (.int .i64 0), (.int .u64 0), (.int .u64 0), (.int .u64 0), (.int .u64 0), (.int .u64 0), (.int .u64 0), (.int .u64 0), (.int .u64 0)] none), o 3 (.mov (ci 0))])
  (.seq (.reg [o 7 (.mov (.t 0)), o 8 (.call (cf fn_code_Decode) [(.t 7)]), o 6 (.mov (.t 8)), o 9 (.ext (.t 6) 0), o 10 (.ext (.t 6) 1), o 4 (.mov (.t 9)), o 5 (.mov (.t 10))])
  (.seq (.seq (.reg [o 11 (.mov (.t 5)), o 12 (.ne .int (.t 11) (ci 0))])
  (.cond (.t 12) (.seq (.reg [o 13 (.build [.nils, (.int .i64 0), (.int .u64 0), (.int .u64 0), (.int .u64 0), (.int .u64 0), (.int .u64 0), (.int .u64 0), (.int .u64 0), (.int .u64 0)] []), o 14 (.mov (.t 5)), u (.store 10 (.t 2) (.t 13)), o 3 (.mov (.t 14))])
    .ret) .skip))
  (.seq (.reg [o 15 (.mov (.t 4)), o 16 (.build [.nils, (.int .i64 0), (.int .u64 0), (.int .u64 0), (.int .u64 0), (.int .u64 0), (.int .u64 0), (.int .u64 0), (.int .u64 0), (.int .u64 0)] [(0, 1, (.t 15))]), u (.store 10 (.t 2) (.t 16)), o 3 (.mov (ci 0))])
  .ret))))⟩

def pf_Pcall_Core_Reap : PF := ⟨28, [.t 2],
  (.seq (.reg [o 2 (.mov (.c (.bool false)))])
  (.seq (.seq (.reg [o 3 (.mov (.t 0)), o 4 (.nilck (.t 3)), o 5 (.faddr 1273 (.t 4)), o 6 (.load false 1 (.t 5)), o 7 (.len .sl (.t 6)), o 8 (.eq .int (.t 7) (ci 0))])
  (.cond (.t 8) (.seq (.reg [o 2 (.mov (.c (.bool false)))])
    .ret) .skip))
  (.seq (.dreg [(o 9 (.mov (.t 0)), []), (o 10 (.nilck (.t 9)), []), (o 11 (.faddr 952 (.t 10)), []), (o 12 (.load false 1 (.t 11)), []), (o 13 (.mov (.t 0)), []), (o 14 (.nilck (.t 13)), []), (o 15 (.faddr 1273 (.t 14)), []), (o 16 (.load false 1 (.t 15)), [3]), (o 17 (.iaddrs 1 (.t 16) (ci 0)), []), (o 18 (.load false 1 (.t 17)), [3]), (o 19 (.call (cf fn_Ppool_Pool_Back) [(.t 12), (.t 18)]), [])])
  (.seq (.reg [o 20 (.mov (.t 0)), o 21 (.mov (.t 0)), o 22 (.nilck (.t 21)), o 23 (.faddr 1273 (.t 22)), o 24 (.load false 1 (.t 23)), o 25 (.slsl 1 (.t 24) (some (ci 1)) none none), o 26 (.nilck (.t 20)), o 27 (.faddr 1273 (.t 26)), u (.store 1 (.t 27) (.t 25))])
  (.seq (.reg [o 2 (.mov (.c (.bool true)))])
  .ret)))))⟩

def pf_Pmachine_Machine_alive : PF := ⟨23, [.t 4],
  (.seq (.reg [o 4 (.mov (.c (.bool false)))])
  (.seq (.reg [o 5 (.mov (.t 1)), o 6 (.bin .geq (.t 5) (ci 0)), o 7 (.mov (.t 6)), gt 7 (some 8) (.mov (.t 1)), gt 7 (some 9) (.bin .lss (.t 8) (ci 8)), o 10 (.pick (.t 7) (.t 9) (.c (.bool false))), o 11 (.mov (.t 10)), gt 11 (some 12) (.mov (.t 0)), gt 11 (some 13) (.nilck (.t 12)), gt 11 (some 14) (.faddr 0 (.t 13)), gt 11 (some 15) (.load false 1 (.t 14)), gt 11 (some 16) (.mov (.t 1)), gt 11 (some 17) (.nilck (.t 15)), gt 11 (some 18) (.faddr 0 (.t 17)), gt 11 (some 19) (.faddr 936 (.t 18)), gt 11 (some 20) (.iaddra 8 1 (.t 19) (.t 16)), gt 11 (some 21) (.load false 1 (.t 20)), o 22 (.pick (.t 11) (.t 21) (.c (.bool false))), o 4 (.mov (.t 22))])
  .ret))⟩

def l2_Pmachine_Machine_slays : PC :=
  (.seq (.reg [o 43 (.bin .lss (.t 42) (.t 41))])
  (.seq (.cond (.t 43) .skip (.exit 2))
  (.seq (.block 3 (.seq (.reg [o 44 (.mov (.t 42)), o 10 (.mov (.t 44))])
    (.dreg [(o 45 (.mov (.t 0)), []), (o 46 (.nilck (.t 45)), []), (o 47 (.faddr 0 (.t 46)), []), (o 48 (.load false 1 (.t 47)), []), (o 49 (.mov (.t 0)), []), (o 50 (.nilck (.t 49)), []), (o 51 (.faddr 0 (.t 50)), []), (o 52 (.load false 1 (.t 51)), [3]), (o 53 (.nilck (.t 52)), []), (o 54 (.faddr 1273 (.t 53)), []), (o 55 (.load false 1 (.t 54)), [3]), (o 56 (.faddr 0 (.t 9)), []), (o 57 (.load false 1 (.t 56)), [3, 7, 10]), (o 58 (.mov (.t 10)), []), (o 59 (.bin .add (.t 57) (.t 58)), []), (o 60 (.bslice [(.int .i64 0)] 1 [(0, 1, (.t 59))]), []), (o 61 (.append ty_int 1 8 (.t 55) (.t 60)), [3]), (o 62 (.nilck (.t 48)), []), (o 63 (.faddr 1273 (.t 62)), []), (u (.store 1 (.t 63) (.t 61)), [])])))
  (.reg [o 64 (.bin .add (.t 42) (ci 1)), o 42 (.mov (.t 64))]))))
def l1_Pmachine_Machine_slays : PC :=
  (.seq (.reg [o 37 (.bin .lss (.t 36) (.t 35))])
  (.seq (.cond (.t 37) .skip (.exit 0))
  (.seq (.block 1 (.seq (.reg [o 38 (.iaddrs 2 (.t 34) (.t 36)), o 39 (.load true 2 (.t 38)), o 9 (.alloc [(.int .i64 0), (.int .i64 0)] none), u (.store 2 (.t 9) (.t 39))])
    (.seq (.reg [o 40 (.faddr 1 (.t 9)), o 41 (.load false 1 (.t 40)), o 42 (.mov (ci 0))])
    (.block 2 (.loop l2_Pmachine_Machine_slays)))))
  (.reg [o 65 (.bin .add (.t 36) (ci 1)), o 36 (.mov (.t 65))]))))
def pf_Pmachine_Machine_slays : PF := ⟨88, [],
  (.seq (.reg [o 11 (.build [(.int .u8 0), (.int .u32 0), (.int .u32 0), (.int .u32 0), (.int .u32 0), (.int .u64 0)] [(0, 1, (.c (.int .u8 20)))]), o 4 (.alloc [(.int .u8 0), (.int .u32 0), (.int .u32 0), (.int .u32 0), (.int .u32 0), (.int .u64 0)] none), u (.store 6 (.t 4) (.t 11))])
  (.seq (.dreg [(o 13 (.mov (.t 0)), []), (o 14 (.nilck (.t 13)), []), (o 15 (.faddr 0 (.t 14)), []), (o 16 (.load false 1 (.t 15)), []), (o 17 (.nilck (.t 16)), []), (o 18 (.faddr 0 (.t 17)), []), (o 19 (.load true 952 (.t 18)), []), (o 20 (.mov (.t 1)), []), (o 21 (.load true 6 (.t 4)), [3, 6]), (o 22 (.build [(.int .i64 0), (.int .i64 0)] []), []), (o 23 (.call (cf fn_model_State_Do) [(.t 19), (.t 20), (.t 21), (.t 22)]), []), (o 12 (.mov (.t 23)), []), (o 24 (.ext (.t 12) 0), []), (o 25 (.ext (.t 12) 1), []), (o 26 (.ext (.t 12) 2), []), (o 5 (.alloc z952_2fb3 none), [3, 6, 8, 10]), (o 6 (.alloc [(.int .i64 0), (.int .u64 0), (.int .u32 0)] none), [3, 6, 8, 10, 15]), (u (.store 952 (.t 5) (.t 24)), []), (u (.store 3 (.t 6) (.t 25)), []), (o 7 (.mov (.t 26)), [])])
  (.seq (.dreg [(o 27 (.mov (.t 0)), []), (o 28 (.nilck (.t 27)), []), (o 29 (.faddr 0 (.t 28)), []), (o 30 (.load false 1 (.t 29)), []), (o 31 (.load true 952 (.t 5)), [3]), (o 32 (.nilck (.t 30)), []), (o 33 (.faddr 0 (.t 32)), []), (u (.store 952 (.t 33) (.t 31)), [])])
  (.seq (.seq (.reg [o 34 (.mov (.t 7)), o 35 (.len .sl (.t 34)), o 36 (.mov (ci 0))])
  (.block 0 (.loop l1_Pmachine_Machine_slays)))
  (.dreg [(o 66 (.mov (.t 0)), []), (o 67 (.mov (.t 0)), []), (o 68 (.nilck (.t 67)), []), (o 69 (.faddr 194 (.t 68)), []), (o 70 (.load false 1 (.t 69)), []), (o 71 (.mov (.t 1)), []), (o 72 (.load true 6 (.t 4)), [4]), (o 73 (.build [(.int .i64 0), (.int .i64 0)] []), []), (o 74 (.load true 3 (.t 6)), [4, 6]), (o 75 (.mov (.t 0)), []), (o 76 (.nilck (.t 75)), []), (o 77 (.faddr 193 (.t 76)), []), (o 78 (.load false 1 (.t 77)), [4, 6, 8]), (o 79 (.mov (.t 0)), []), (o 80 (.nilck (.t 79)), []), (o 81 (.faddr 193 (.t 80)), []), (o 82 (.load false 1 (.t 81)), [4, 6, 8, 12]), (o 83 (.build [(.int .i64 0), (.int .u8 0), (.int .u32 0), (.int .u32 0), (.int .u32 0), (.int .u32 0), (.int .u64 0), (.int .i64 0), (.int .i64 0), (.int .i64 0), (.int .u64 0), (.int .u32 0), (.int .i64 0), (.int .i64 0)] [(0, 1, (.t 71)), (1, 6, (.t 72)), (7, 2, (.t 73)), (9, 3, (.t 74)), (12, 1, (.t 78)), (13, 1, (.t 82))]), []), (o 84 (.bslice [(.int .i64 0), (.int .u8 0), (.int .u32 0), (.int .u32 0), (.int .u32 0), (.int .u32 0), (.int .u64 0), (.int .i64 0), (.int .i64 0), (.int .i64 0), (.int .u64 0), (.int .u32 0), (.int .i64 0), (.int .i64 0)] 1 [(0, 14, (.t 83))]), []), (o 85 (.append ty_machine_Event 14 96 (.t 70) (.t 84)), []), (o 86 (.nilck (.t 66)), []), (o 87 (.faddr 194 (.t 86)), []), (u (.store 1 (.t 87) (.t 85)), [])])))))⟩

def pf_Pmachine_Machine_steps : PF := ⟨57, [],
  (.seq (.reg [o 7 (.mov (.t 0)), o 8 (.mov (.t 1)), o 9 (.nilck (.t 7)), o 10 (.faddr 1 (.t 9)), o 11 (.iaddra 8 24 (.t 10) (.t 8)), o 4 (.mov (.t 11))])
  (.seq (.reg [o 13 (.mov (.t 4)), o 14 (.nilck (.t 13)), o 15 (.faddr 0 (.t 14)), o 16 (.load true 10 (.t 15)), o 17 (.call (cf fn_task_Task_Wants) [(.t 16)]), o 12 (.mov (.t 17)), o 18 (.ext (.t 12) 0), o 19 (.ext (.t 12) 1), o 5 (.alloc [(.int .u8 0), (.int .u32 0), (.int .u32 0), (.int .u32 0), (.int .u32 0), (.int .u64 0)] none), u (.store 6 (.t 5) (.t 18)), o 6 (.mov (.t 19))])
  (.block 0 (.seq (.reg [o 29 (.mov (.t 4)), o 30 (.nilck (.t 29)), o 31 (.faddr 22 (.t 30)), o 32 (.load false 1 (.t 31)), o 28 (.mov (.t 32))])
    (.cond (.t 28) (.reg [o 33 (.mov (.t 0)), o 34 (.mov (.t 1)), o 35 (.call (cf fn_Pmachine_Machine_calls) [(.t 33), (.t 34)])]) (.seq (.reg [o 37 (.mov (.t 6)), o 36 (.mov (.t 37))])
      (.cond (.t 36) (.seq (.dreg [(o 38 (.mov (.t 4)), []), (o 39 (.mov (.t 4)), []), (o 40 (.mov (.t 4)), []), (o 41 (.mov (.t 1)), []), (o 42 (.load true 6 (.t 5)), []), (o 43 (.build [(.int .i64 0), (.int .u8 0), (.int .u32 0), (.int .u32 0), (.int .u32 0), (.int .u32 0), (.int .u64 0), (.bool false), .nils, (.int .i64 0), (.int .i64 0), (.int .i64 0)] [(0, 1, (.t 41)), (1, 6, (.t 42))]), []), (o 44 (.mov (.t 0)), []), (o 45 (.nilck (.t 44)), []), (o 46 (.faddr 193 (.t 45)), []), (o 47 (.load false 1 (.t 46)), [4]), (o 48 (.nilck (.t 38)), []), (o 49 (.faddr 10 (.t 48)), []), (u (.store 12 (.t 49) (.t 43)), []), (o 50 (.nilck (.t 39)), []), (o 51 (.faddr 22 (.t 50)), []), (u (.store 1 (.t 51) (.c (.bool true))), []), (o 52 (.nilck (.t 40)), []), (o 53 (.faddr 23 (.t 52)), []), (u (.store 1 (.t 53) (.t 47)), [])])
        (.reg [o 54 (.mov (.t 0)), o 55 (.mov (.t 1)), o 56 (.call (cf fn_Pmachine_Machine_calls) [(.t 54), (.t 55)])])) (.reg [o 20 (.mov (.t 4)), o 21 (.mov (.t 4)), o 22 (.nilck (.t 21)), o 23 (.faddr 0 (.t 22)), o 24 (.load true 10 (.t 23)), o 25 (.call (cf fn_task_Task_Step) [(.t 24)]), o 26 (.nilck (.t 20)), o 27 (.faddr 0 (.t 26)), u (.store 10 (.t 27) (.t 25))]))))))))⟩

def l1_Pmachine_Machine_clear : PC :=
  (.seq (.reg [o 5 (.bin .lss (.t 4) (ci 8))])
  (.seq (.cond (.t 5) .skip (.exit 0))
  (.seq (.block 1 (.seq (.reg [o 6 (.mov (.t 4)), o 2 (.mov (.t 6))])
    (.seq (.reg [o 7 (.mov (.t 0)), o 8 (.mov (.t 2)), o 9 (.nilck (.t 7)), o 10 (.faddr 1 (.t 9)), o 11 (.iaddra 8 24 (.t 10) (.t 8)), o 3 (.mov (.t 11))])
    (.seq (.reg [o 12 (.mov (.t 3)), o 13 (.nilck (.t 12)), o 14 (.faddr 22 (.t 13)), o 15 (.load false 1 (.t 14)), o 16 (.mov (.t 15)), gt 16 (some 17) (.mov (.t 0)), gt 16 (some 18) (.mov (.t 2)), gt 16 (some 19) (.call (cf fn_Pmachine_Machine_alive) [(.t 17), (.t 18)]), gt 16 (some 20) (.un .not (.t 19)), o 21 (.pick (.t 16) (.t 20) (.c (.bool false)))])
    (.cond (.t 21) (.seq (.dreg [(o 22 (.mov (.t 0)), []), (o 23 (.nilck (.t 22)), []), (o 24 (.faddr 0 (.t 23)), []), (o 25 (.load false 1 (.t 24)), []), (o 26 (.mov (.t 3)), []), (o 27 (.nilck (.t 26)), []), (o 28 (.faddr 10 (.t 27)), []), (o 29 (.load true 12 (.t 28)), [3]), (o 30 (.call (cf fn_Pcall_Core_Cut) [(.t 25), (.t 29)]), [])])
      (.reg [o 31 (.mov (.t 3)), o 32 (.mov (.t 3)), o 33 (.build [(.int .i64 0), (.int .u8 0), (.int .u32 0), (.int .u32 0), (.int .u32 0), (.int .u32 0), (.int .u64 0), (.bool false), .nils, (.int .i64 0), (.int .i64 0), (.int .i64 0)] []), o 34 (.nilck (.t 31)), o 35 (.faddr 22 (.t 34)), u (.store 1 (.t 35) (.c (.bool false))), o 36 (.nilck (.t 32)), o 37 (.faddr 10 (.t 36)), u (.store 12 (.t 37) (.t 33))])) .skip)))))
  (.reg [o 38 (.bin .add (.t 4) (ci 1)), o 4 (.mov (.t 38))]))))
def pf_Pmachine_Machine_clear : PF := ⟨39, [],
  (.seq (.reg [o 4 (.mov (ci 0))])
  (.block 0 (.loop l1_Pmachine_Machine_clear)))⟩

def pf_Pmachine_Machine_has : PF := ⟨15, [.t 4],
  (.seq (.reg [o 4 (.mov (.c (.bool false)))])
  (.seq (.reg [o 5 (.mov (.t 0)), o 6 (.ne .ptr (.t 5) (.c .nilp)), o 7 (.mov (.t 6)), gt 7 (some 8) (.mov (.t 1)), gt 7 (some 9) (.bin .geq (.t 8) (ci 0)), o 10 (.pick (.t 7) (.t 9) (.c (.bool false))), o 11 (.mov (.t 10)), gt 11 (some 12) (.mov (.t 1)), gt 11 (some 13) (.bin .lss (.t 12) (ci 8)), o 14 (.pick (.t 11) (.t 13) (.c (.bool false))), o 4 (.mov (.t 14))])
  .ret))⟩

def pf_Pmachine_Machine_waits : PF := ⟨37, [.t 4],
  (.seq (.reg [o 4 (.mov (.c (.bool false)))])
  (.seq (.reg [o 8 (.mov (.t 0)), o 9 (.mov (.t 1)), o 10 (.call (cf fn_Pmachine_Machine_Under) [(.t 8), (.t 9)]), o 7 (.mov (.t 10)), o 11 (.ext (.t 7) 0), o 12 (.ext (.t 7) 1), o 5 (.alloc [(.int .i64 0), (.int .u8 0), (.int .u32 0), (.int .u32 0), (.int .u32 0), (.int .u32 0), (.int .u64 0), (.bool false), .nils, (.int .i64 0), (.int .i64 0), (.int .i64 0)] none), u (.store 12 (.t 5) (.t 11)), o 6 (.mov (.t 12))])
  (.seq (.dreg [(o 13 (.mov (.t 6)), []), (o 14 (.mov (.t 13)), []), (gt 14 (some 15) (.mov (.t 0)), []), (gt 14 (some 16) (.mov (.t 1)), []), (gt 14 (some 17) (.call (cf fn_Pmachine_Machine_alive) [(.t 15), (.t 16)]), []), (o 18 (.pick (.t 14) (.t 17) (.c (.bool false))), []), (o 19 (.mov (.t 18)), []), (gt 19 (some 20) (.faddr 7 (.t 5)), []), (gt 19 (some 21) (.load false 1 (.t 20)), []), (gt 19 (some 22) (.un .not (.t 21)), []), (o 23 (.pick (.t 19) (.t 22) (.c (.bool false))), []), (o 24 (.mov (.t 23)), []), (gt 24 (some 25) (.mov (.t 0)), []), (gt 24 (some 26) (.nilck (.t 25)), []), (gt 24 (some 27) (.faddr 0 (.t 26)), []), (gt 24 (some 28) (.load false 1 (.t 27)), []), (gt 24 (some 29) (.nilck (.t 28)), []), (gt 24 (some 30) (.faddr 0 (.t 29)), []), (gt 24 (some 31) (.load true 952 (.t 30)), []), (gt 24 (some 32) (.mov (.t 1)), []), (gt 24 (some 33) (.faddr 1 (.t 5)), []), (gt 24 (some 34) (.load true 6 (.t 33)), [15, 18]), (gt 24 (some 35) (.call (cf fn_plan_Waits) [(.t 31), (.t 32), (.t 34)]), []), (o 36 (.pick (.t 24) (.t 35) (.c (.bool false))), []), (o 4 (.mov (.t 36)), [])])
  .ret)))⟩

def pf_slices_Clone_int_int : PF := ⟨8, [.t 2],
  (.seq (.reg [o 2 (.mov (.c .nils))])
  (.seq (.seq (.reg [o 3 (.mov (.t 0)), o 4 (.eq .sl (.t 3) (.c .nils))])
  (.cond (.t 4) (.seq (.reg [o 2 (.mov (.c .nils))])
    .ret) .skip))
  (.seq (.reg [o 5 (.bslice [(.int .i64 0)] 0 []), o 6 (.mov (.t 0)), o 7 (.append ty_int 1 8 (.t 5) (.t 6)), o 2 (.mov (.t 7))])
  .ret)))⟩

def pf_model_State_Do : PF := ⟨35, [.cell 8 true 952, .cell 9 true 3, .t 10],
  (.seq (.reg [o 4 (.box (.t 0)), o 6 (.box (.t 2)), o 7 (.box (.t 3)), o 8 (.alloc z952_2fb3 none), o 9 (.alloc [(.int .i64 0), (.int .u64 0), (.int .u32 0)] none), o 10 (.mov (.c .nils))])
  (.seq (.reg [o 13 (.load true 952 (.t 4)), o 14 (.mov (.t 1)), o 15 (.load true 6 (.t 6)), o 16 (.load true 2 (.t 7)), o 17 (.build z964_ded6 [(0, 952, (.t 13)), (952, 1, (.t 14)), (953, 6, (.t 15)), (959, 2, (.t 16))]), o 18 (.box (.t 17)), o 11 (.mov (.t 18))])
  (.seq (.reg [o 19 (.mov (.t 11)), o 20 (.call (cf fn_Pmodel_caller_calls) [(.t 19)]), o 12 (.alloc [(.int .i64 0), (.int .u64 0), (.int .u32 0)] none), u (.store 3 (.t 12) (.t 20))])
  (.seq (.seq (.reg [o 21 (.faddr 0 (.t 12)), o 22 (.load false 1 (.t 21)), o 23 (.ne .int (.t 22) (ci 0))])
  (.cond (.t 23) (.seq (.dreg [(o 24 (.load true 952 (.t 4)), []), (o 25 (.load true 3 (.t 12)), [0]), (u (.store 952 (.t 8) (.t 24)), [1]), (u (.store 3 (.t 9) (.t 25)), []), (o 10 (.mov (.c .nils)), [])])
    .ret) .skip))
  (.seq (.dreg [(o 26 (.mov (.t 11)), []), (o 27 (.nilck (.t 26)), []), (o 28 (.faddr 0 (.t 27)), []), (o 29 (.load true 952 (.t 28)), []), (o 30 (.load true 3 (.t 12)), [3]), (o 31 (.mov (.t 11)), []), (o 32 (.nilck (.t 31)), []), (o 33 (.faddr 963 (.t 32)), []), (o 34 (.load false 1 (.t 33)), [3, 4]), (u (.store 952 (.t 8) (.t 29)), [4, 8]), (u (.store 3 (.t 9) (.t 30)), [8]), (o 10 (.mov (.t 34)), [])])
  .ret)))))⟩

def l1_mail_Box_All : PC :=
  (.block 1 (.reg [o 8 (.load false 1 (.t 3)), o 9 (.load true 4 (.t 4)), o 10 (.bslice [(.int .u8 0), (.int .u64 0), (.int .u32 0), (.bool false)] 1 [(0, 4, (.t 9))]), o 11 (.append ty_mail_Message 4 24 (.t 8) (.t 10)), u (.store 1 (.t 3) (.t 11))]))
def pf_mail_Box_All : PF := ⟨14, [.t 2],
  (.seq (.reg [o 1 (.box (.t 0)), o 2 (.mov (.c .nils))])
  (.seq (.reg [o 3 (.alloc [.nils] none)])
  (.seq (.seq (.reg [o 5 (.load true 19 (.t 1)), o 6 (.call (cf fn_mail_Box_each) [(.t 5)])])
  (.block 0 (.rfun (.t 6) [7] (.reg [o 4 (.alloc [(.int .u8 0), (.int .u64 0), (.int .u32 0), (.bool false)] none), u (.store 4 (.t 4) (.t 7))]) l1_mail_Box_All)))
  (.seq (.reg [o 12 (.load false 1 (.t 3)), o 13 (.call (cf fn_slices_Clip_mail_Message_mail_Message) [(.t 12)]), o 2 (.mov (.t 13))])
  .ret))))⟩

def pf_table_book_All : PF := ⟨6, [.t 2],
  (.seq (.reg [o 1 (.box (.t 0)), o 2 (.mov (.c .nils))])
  (.seq (.reg [o 3 (.faddr 0 (.t 1)), o 4 (.load true 96 (.t 3)), o 5 (.call (cf fn_handle_Book_Issued) [(.t 4)]), o 2 (.mov (.t 5))])
  .ret))⟩

def pf_table_Table_Get : PF := ⟨30, [.cell 4 true 12, .t 5],
  (.seq (.reg [o 2 (.box (.t 0)), o 4 (.alloc [(.int .u32 0), (.int .i64 0), .nils, (.int .i64 0), (.int .u32 0), (.int .u32 0), (.int .u32 0), (.int .u32 0), (.int .u32 0), (.int .u32 0), (.int .u32 0), (.int .u32 0)] none), o 5 (.mov (ci 0))])
  (.seq (.seq (.reg [o 9 (.faddr 0 (.t 2)), o 10 (.faddr 0 (.t 9)), o 11 (.load true 96 (.t 10)), o 12 (.mov (.t 1)), o 13 (.call (cf fn_handle_Book_Good) [(.t 11), (.t 12)]), o 14 (.un .not (.t 13))])
  (.cond (.t 14) (.seq (.reg [o 15 (.build [(.int .u32 0), (.int .i64 0), .nils, (.int .i64 0), (.int .u32 0), (.int .u32 0), (.int .u32 0), (.int .u32 0), (.int .u32 0), (.int .u32 0), (.int .u32 0), (.int .u32 0)] []), u (.store 12 (.t 4) (.t 15)), o 5 (.mov (ci 4))])
    .ret) .skip))
  (.seq (.reg [o 17 (.mov (.t 1)), o 18 (.call (cf fn_handle_Handle_Slot) [(.t 17)]), o 16 (.mov (.t 18)), o 19 (.ext (.t 16) 0), o 20 (.ext (.t 16) 1), o 6 (.mov (.t 19)), o 7 (.mov (.t 20))])
  (.seq (.reg [o 21 (.mov (.t 6)), o 22 (.faddr 96 (.t 2)), o 23 (.iaddra 32 12 (.t 22) (.t 21)), o 24 (.load true 12 (.t 23)), o 8 (.alloc [(.int .u32 0), (.int .i64 0), .nils, (.int .i64 0), (.int .u32 0), (.int .u32 0), (.int .u32 0), (.int .u32 0), (.int .u32 0), (.int .u32 0), (.int .u32 0), (.int .u32 0)] none), u (.store 12 (.t 8) (.t 24))])
  (.seq (.reg [o 25 (.load true 480 (.t 2)), o 26 (.mov (.t 1)), o 27 (.call (cf fn_table_Table_up) [(.t 25), (.t 26)]), o 28 (.faddr 0 (.t 8)), u (.store 1 (.t 28) (.t 27))])
  (.seq (.reg [o 29 (.load true 12 (.t 8)), u (.store 12 (.t 4) (.t 29)), o 5 (.mov (ci 0))])
  .ret))))))⟩

def l1_extent_Extent_Place : PC :=
  (.block 1 (.seq (.reg [o 12 (.load false 1 (.t 3)), o 13 (.mov (.t 6)), o 14 (.bin .geq (.t 12) (.t 13)), o 15 (.mov (.t 14)), gt 15 (some 16) (.load false 1 (.t 3)), gt 15 (some 17) (.mov (.t 6)), gt 15 (some 18) (.faddr 1 (.t 7)), gt 15 (some 19) (.load false 1 (.t 18)), gt 15 (some 20) (.bin .mul (.t 19) (ci 32)), gt 15 (some 21) (.bin .add (.t 17) (.t 20)), gt 15 (some 22) (.bin .lss (.t 16) (.t 21)), o 23 (.pick (.t 15) (.t 22) (.c (.bool false)))])
    (.cond (.t 23) (.seq (.reg [o 24 (.faddr 0 (.t 7)), o 25 (.load false 1 (.t 24)), o 26 (.bin .mul (.t 25) (ci 32)), o 27 (.load false 1 (.t 3)), o 28 (.bin .add (.t 26) (.t 27)), o 29 (.mov (.t 6)), o 30 (.bin .sub (.t 28) (.t 29)), u (.store 1 (.t 4) (.t 30)), u (.store 1 (.t 5) (.c (.bool true)))])
      .ret) .skip)))
def pf_extent_Extent_Place : PF := ⟨31, [.cell 4 false 1, .cell 5 false 1],
  (.seq (.reg [o 2 (.box (.t 0)), o 3 (.box (.t 1)), o 4 (.alloc [(.int .i64 0)] none), o 5 (.alloc [(.bool false)] none)])
  (.seq (.seq (.reg [o 8 (.load true 2 (.t 2)), o 9 (.call (cf fn_extent_Extent_chunks) [(.t 8)])])
  (.block 0 (.rfun (.t 9) [10, 11] (.seq (.reg [o 6 (.mov (.t 10))])
    (.reg [o 7 (.alloc [(.int .i64 0), (.int .i64 0)] none), u (.store 2 (.t 7) (.t 11))])) l1_extent_Extent_Place)))
  (.seq (.reg [u (.store 1 (.t 4) (ci 0)), u (.store 1 (.t 5) (.c (.bool false)))])
  .ret)))⟩

def pf_Ppool_Pool_Read : PF := ⟨12, [.cell 4 false 1, .t 5],
  (.seq (.reg [o 4 (.alloc [(.int .u8 0)] none), o 5 (.mov (ci 0))])
  (.seq (.reg [o 6 (.mov (.t 0)), o 7 (.mov (.t 1)), o 8 (.mkf (.func fn_Ppool_Pool_Read_1) [] [(.t 4)]), o 9 (.call (cf fn_Ppool_Pool_byte) [(.t 6), (.t 7), (.t 8)]), o 5 (.mov (.t 9))])
  (.seq (.reg [o 10 (.load false 1 (.t 4)), o 11 (.mov (.t 5)), u (.store 1 (.t 4) (.t 10)), o 5 (.mov (.t 11))])
  .ret)))⟩

def pf_Pmachine_Machine_Under : PF := ⟨34, [.cell 4 true 12, .t 5],
  (.seq (.reg [o 4 (.alloc [(.int .i64 0), (.int .u8 0), (.int .u32 0), (.int .u32 0), (.int .u32 0), (.int .u32 0), (.int .u64 0), (.bool false), .nils, (.int .i64 0), (.int .i64 0), (.int .i64 0)] none), o 5 (.mov (.c (.bool false)))])
  (.seq (.seq (.reg [o 7 (.mov (.t 0)), o 8 (.mov (.t 1)), o 9 (.call (cf fn_Pmachine_Machine_has) [(.t 7), (.t 8)]), o 10 (.un .not (.t 9)), o 11 (.mov (.t 10)), gf 11 (some 12) (.mov (.t 0)), gf 11 (some 13) (.mov (.t 1)), gf 11 (some 14) (.nilck (.t 12)), gf 11 (some 15) (.faddr 1 (.t 14)), gf 11 (some 16) (.iaddra 8 24 (.t 15) (.t 13)), gf 11 (some 17) (.faddr 22 (.t 16)), gf 11 (some 18) (.load false 1 (.t 17)), gf 11 (some 19) (.un .not (.t 18)), o 20 (.pick (.t 11) (.c (.bool true)) (.t 19))])
  (.cond (.t 20) (.seq (.reg [o 21 (.build [(.int .i64 0), (.int .u8 0), (.int .u32 0), (.int .u32 0), (.int .u32 0), (.int .u32 0), (.int .u64 0), (.bool false), .nils, (.int .i64 0), (.int .i64 0), (.int .i64 0)] []), u (.store 12 (.t 4) (.t 21)), o 5 (.mov (.c (.bool false)))])
    .ret) .skip))
  (.seq (.reg [o 22 (.mov (.t 0)), o 23 (.mov (.t 1)), o 24 (.nilck (.t 22)), o 25 (.faddr 1 (.t 24)), o 26 (.iaddra 8 24 (.t 25) (.t 23)), o 27 (.faddr 10 (.t 26)), o 28 (.load true 12 (.t 27)), o 6 (.alloc [(.int .i64 0), (.int .u8 0), (.int .u32 0), (.int .u32 0), (.int .u32 0), (.int .u32 0), (.int .u64 0), (.bool false), .nils, (.int .i64 0), (.int .i64 0), (.int .i64 0)] none), u (.store 12 (.t 6) (.t 28))])
  (.seq (.reg [o 29 (.faddr 8 (.t 6)), o 30 (.load false 1 (.t 29)), o 31 (.call (cf fn_slices_Clone_handle_Handle_handle_Handle) [(.t 30)]), o 32 (.faddr 8 (.t 6)), u (.store 1 (.t 32) (.t 31))])
  (.seq (.reg [o 33 (.load true 12 (.t 6)), u (.store 12 (.t 4) (.t 33)), o 5 (.mov (.c (.bool true)))])
  .ret)))))⟩

def pf_runs_Run_may : PF := ⟨19, [.t 2],
  (.seq (.reg [o 1 (.box (.t 0)), o 2 (.mov (.c (.bool false)))])
  (.seq (.reg [o 3 (.faddr 1 (.t 1)), o 4 (.load false 1 (.t 3)), o 5 (.bin .geq (.t 4) (ci 1)), o 6 (.mov (.t 5)), gt 6 (some 7) (.faddr 0 (.t 1)), gt 6 (some 8) (.load false 1 (.t 7)), gt 6 (some 9) (.bin .geq (.t 8) (ci 0)), o 10 (.pick (.t 6) (.t 9) (.c (.bool false))), o 11 (.mov (.t 10)), gt 11 (some 12) (.faddr 0 (.t 1)), gt 11 (some 13) (.load false 1 (.t 12)), gt 11 (some 14) (.faddr 1 (.t 1)), gt 11 (some 15) (.load false 1 (.t 14)), gt 11 (some 16) (.bin .sub (ci 64) (.t 15)), gt 11 (some 17) (.bin .leq (.t 13) (.t 16)), o 18 (.pick (.t 11) (.t 17) (.c (.bool false))), o 2 (.mov (.t 18))])
  .ret))⟩

def pf_slices_ContainsFunc_runs_Run_runs_Run : PF := ⟨9, [.t 4],
  (.seq (.reg [o 4 (.mov (.c (.bool false)))])
  (.seq (.reg [o 5 (.mov (.t 0)), o 6 (.mov (.t 1)), o 7 (.call (cf fn_slices_IndexFunc_runs_Run_runs_Run) [(.t 5), (.t 6)]), o 8 (.bin .geq (.t 7) (ci 0)), o 4 (.mov (.t 8))])
  .ret))⟩

def pf_runs_Runs_Has_1 : PF := ⟨7, [.t 3],
  (.seq (.reg [o 2 (.box (.t 0)), o 3 (.mov (.c (.bool false)))])
  (.seq (.reg [o 4 (.load true 2 (.t 2)), o 5 (.load true 2 (.t 1)), o 6 (.call (cf fn_runs_Run_holds) [(.t 4), (.t 5)]), o 3 (.mov (.t 6))])
  .ret))⟩

def pf_runs_Run_holds : PF := ⟨22, [.t 4],
  (.seq (.reg [o 2 (.box (.t 0)), o 3 (.box (.t 1)), o 4 (.mov (.c (.bool false)))])
  (.seq (.dreg [(o 5 (.load true 2 (.t 3)), []), (o 6 (.load true 2 (.t 2)), [0]), (o 7 (.eq (.agg [.int, .int]) (.t 5) (.t 6)), []), (o 8 (.mov (.t 7)), []), (gf 8 (some 9) (.faddr 0 (.t 3)), []), (gf 8 (some 10) (.load false 1 (.t 9)), []), (gf 8 (some 11) (.faddr 0 (.t 2)), []), (gf 8 (some 12) (.load false 1 (.t 11)), [5]), (gf 8 (some 13) (.bin .geq (.t 10) (.t 12)), []), (gf 8 (some 14) (.mov (.t 13)), []), (gt 14 (some 15) (.load true 2 (.t 3)), []), (gt 14 (some 16) (.call (cf fn_runs_Run_end) [(.t 15)]), []), (gt 14 (some 17) (.load true 2 (.t 2)), [10, 11]), (gt 14 (some 18) (.call (cf fn_runs_Run_end) [(.t 17)]), []), (gt 14 (some 19) (.bin .leq (.t 16) (.t 18)), []), (gf 8 (some 20) (.pick (.t 14) (.t 19) (.c (.bool false))), []), (o 21 (.pick (.t 8) (.c (.bool true)) (.t 20)), []), (o 4 (.mov (.t 21)), [])])
  .ret))⟩

def pf_script_Script_May_1 : PF := ⟨12, [.t 2],
  (.seq (.reg [o 2 (.mov (.c (.bool false)))])
  (.seq (.reg [o 6 (.mov (.t 0)), o 7 (.call (cf fn_code_Decode) [(.t 6)]), o 5 (.mov (.t 7)), o 8 (.ext (.t 5) 0), o 9 (.ext (.t 5) 1), o 3 (.mov (.t 8)), o 4 (.mov (.t 9))])
  (.seq (.reg [o 10 (.mov (.t 4)), o 11 (.ne .int (.t 10) (ci 0)), o 2 (.mov (.t 11))])
  .ret)))⟩

def l1_code_Decode : PC :=
  (.seq (.seq (.reg [o 15 (.mov (.t 0)), o 16 (.len .str (.t 15)), o 17 (.bin .gtr (.t 16) (ci 0))])
  (.cond (.t 17) .skip (.exit 0)))
  (.seq (.block 1 (.seq (.reg [o 5 (.alloc [(.int .u8 0), (.int .u8 0), (.int .u8 0), (.int .u8 0), (.int .u8 0), (.int .u8 0)] none)])
    (.seq (.reg [o 20 (.slarr 6 1 (.t 5) none none), o 21 (.mov (.t 0)), o 22 (.copy 1 (.t 20) (.t 21))])
    (.reg [o 23 (.mov (.t 4)), o 24 (.iaddra 6 1 (.t 5) (ci 0)), o 25 (.load false 1 (.t 24)), o 26 (.iaddra 6 1 (.t 5) (ci 1)), o 27 (.load false 1 (.t 26)), o 28 (.iaddra 6 1 (.t 5) (ci 2)), o 29 (.load false 1 (.t 28)), o 30 (.iaddra 6 1 (.t 5) (ci 3)), o 31 (.load false 1 (.t 30)), o 32 (.iaddra 6 1 (.t 5) (ci 4)), o 33 (.load false 1 (.t 32)), o 34 (.conv .u16 (.t 33)), o 35 (.iaddra 6 1 (.t 5) (ci 5)), o 36 (.load false 1 (.t 35)), o 37 (.conv .u16 (.t 36)), o 38 (.shf .shl (.t 37) (.c (.int .u64 8))), o 39 (.bin .or (.t 34) (.t 38)), o 40 (.build [(.int .u8 0), (.int .u8 0), (.int .u8 0), (.int .u8 0), (.int .u16 0)] [(0, 1, (.t 25)), (1, 1, (.t 27)), (2, 1, (.t 29)), (3, 1, (.t 31)), (4, 1, (.t 39))]), o 41 (.bslice [(.int .u8 0), (.int .u8 0), (.int .u8 0), (.int .u8 0), (.int .u16 0)] 1 [(0, 5, (.t 40))]), o 42 (.append ty_code_Instr 5 6 (.t 23) (.t 41)), o 4 (.mov (.t 42))]))))
  (.reg [o 18 (.mov (.t 0)), o 19 (.slstr (.t 18) (some (ci 6)) none), o 0 (.mov (.t 19))])))
def pf_code_Decode : PF := ⟨47, [.t 2, .t 3],
  (.seq (.reg [o 2 (.mov (.c .nils)), o 3 (.mov (ci 0))])
  (.seq (.seq (.reg [o 6 (.mov (.t 0)), o 7 (.len .str (.t 6)), o 8 (.bin .rem (.t 7) (ci 6)), o 9 (.ne .int (.t 8) (ci 0)), o 10 (.mov (.t 9)), gf 10 (some 11) (.mov (.t 0)), gf 10 (some 12) (.len .str (.t 11)), gf 10 (some 13) (.bin .gtr (.t 12) (ci 384)), o 14 (.pick (.t 10) (.c (.bool true)) (.t 13))])
  (.cond (.t 14) (.seq (.reg [o 2 (.mov (.c .nils)), o 3 (.mov (ci 3))])
    .ret) .skip))
  (.seq (.reg [o 4 (.mov (.c .nils))])
  (.seq (.block 0 (.loop l1_code_Decode))
  (.seq (.seq (.reg [o 43 (.mov (.t 4)), o 44 (.call (cf fn_code_May) [(.t 43)]), o 45 (.un .not (.t 44))])
  (.cond (.t 45) (.seq (.reg [o 2 (.mov (.c .nils)), o 3 (.mov (ci 3))])
    .ret) .skip))
  (.seq (.reg [o 46 (.mov (.t 4)), o 2 (.mov (.t 46)), o 3 (.mov (ci 0))])
  .ret))))))⟩

def pf_slices_ContainsFunc_string_string : PF := ⟨9, [.t 4],
  (.seq (.reg [o 4 (.mov (.c (.bool false)))])
  (.seq (.reg [o 5 (.mov (.t 0)), o 6 (.mov (.t 1)), o 7 (.call (cf fn_slices_IndexFunc_string_string) [(.t 5), (.t 6)]), o 8 (.bin .geq (.t 7) (ci 0)), o 4 (.mov (.t 8))])
  .ret))⟩

def pf_slices_ContainsFunc_uint8_uint8 : PF := ⟨9, [.t 4],
  (.seq (.reg [o 4 (.mov (.c (.bool false)))])
  (.seq (.reg [o 5 (.mov (.t 0)), o 6 (.mov (.t 1)), o 7 (.call (cf fn_slices_IndexFunc_uint8_uint8) [(.t 5), (.t 6)]), o 8 (.bin .geq (.t 7) (ci 0)), o 4 (.mov (.t 8))])
  .ret))⟩

def pf_script_Script_May_2 : PF := ⟨6, [.t 2],
  (.seq (.reg [o 2 (.mov (.c (.bool false)))])
  (.seq (.reg [o 3 (.mov (.t 0)), o 4 (.call (cf fn_script_pick) [(.t 3)]), o 5 (.un .not (.t 4)), o 2 (.mov (.t 5))])
  .ret))⟩

def pf_script_pick : PF := ⟨17, [.t 2],
  (.seq (.reg [o 2 (.mov (.c (.bool false)))])
  (.seq (.reg [o 3 (.mov (.t 0)), o 4 (.bin .lss (.t 3) (.c (.int .u8 8))), o 5 (.mov (.t 4)), gf 5 (some 6) (.mov (.t 0)), gf 5 (some 7) (.eq .int (.t 6) (.c (.int .u8 8))), o 8 (.pick (.t 5) (.c (.bool true)) (.t 7)), o 9 (.mov (.t 8)), gf 9 (some 10) (.mov (.t 0)), gf 9 (some 11) (.bin .geq (.t 10) (.c (.int .u8 16))), gf 9 (some 12) (.mov (.t 11)), gt 12 (some 13) (.mov (.t 0)), gt 12 (some 14) (.bin .lss (.t 13) (.c (.int .u8 24))), gf 9 (some 15) (.pick (.t 12) (.t 14) (.c (.bool false))), o 16 (.pick (.t 9) (.c (.bool true)) (.t 15)), o 2 (.mov (.t 16))])
  .ret))⟩

def pf_pool_New : PF := ⟨15, [.t 2, .t 3],
  (.seq (.reg [o 2 (.mov (.c .nilp)), o 3 (.mov (ci 0))])
  (.seq (.seq (.reg [o 4 (.mov (.t 0)), o 5 (.bin .lss (.t 4) (ci 1)), o 6 (.mov (.t 5)), gf 6 (some 7) (.mov (.t 0)), gf 6 (some 8) (.bin .gtr (.t 7) (ci 64)), o 9 (.pick (.t 6) (.c (.bool true)) (.t 8))])
  (.cond (.t 9) (.seq (.reg [o 2 (.mov (.c .nilp)), o 3 (.mov (ci 2))])
    .ret) .skip))
  (.seq (.reg [o 10 (.mov (.t 0)), o 11 (.mov (.t 0)), o 12 (.call (cf fn_runs_Of) [(.t 11)]), o 13 (.build z2050_6829 [(0, 1, (.t 10)), (1, 1, (.t 12))]), o 14 (.box (.t 13)), o 2 (.mov (.t 14)), o 3 (.mov (ci 0))])
  .ret)))⟩

def pf_Ppool_Pool_Back : PF := ⟨9, [.t 4],
  (.seq (.reg [o 2 (.box (.t 0)), o 3 (.box (.t 1)), o 4 (.mov (ci 0))])
  (.seq (.reg [o 5 (.load false 1 (.t 2)), o 6 (.load false 1 (.t 3)), o 7 (.mkf (.func fn_Ppool_Pool_Back_1) [] [(.t 2), (.t 3)]), o 8 (.call (cf fn_Ppool_Pool_lent) [(.t 5), (.t 6), (.t 7)]), o 4 (.mov (.t 8))])
  .ret))⟩

def pf_task_Task_Wants : PF := ⟨49, [.cell 2 true 6, .t 3],
  (.seq (.reg [o 1 (.box (.t 0)), o 2 (.alloc [(.int .u8 0), (.int .u32 0), (.int .u32 0), (.int .u32 0), (.int .u32 0), (.int .u64 0)] none), o 3 (.mov (.c (.bool false)))])
  (.seq (.reg [o 7 (.load true 10 (.t 1)), o 8 (.call (cf fn_task_Task_instr) [(.t 7)]), o 6 (.mov (.t 8)), o 9 (.ext (.t 6) 0), o 10 (.ext (.t 6) 1), o 4 (.alloc [(.int .u8 0), (.int .u8 0), (.int .u8 0), (.int .u8 0), (.int .u16 0)] none), u (.store 5 (.t 4) (.t 9)), o 5 (.mov (.t 10))])
  (.seq (.block 0 (.seq (.reg [o 12 (.mov (.t 5)), o 13 (.un .not (.t 12)), o 14 (.mov (.t 13)), gf 14 (some 15) (.faddr 0 (.t 4)), gf 14 (some 16) (.load false 1 (.t 15)), gf 14 (some 17) (.eq .int (.t 16) (.c (.int .u8 0))), o 18 (.pick (.t 14) (.c (.bool true)) (.t 17)), o 11 (.mov (.t 18))])
    (.cond (.t 11) (.seq (.reg [o 19 (.build [(.int .u8 0), (.int .u32 0), (.int .u32 0), (.int .u32 0), (.int .u32 0), (.int .u64 0)] [(0, 1, (.c (.int .u8 20)))]), u (.store 6 (.t 2) (.t 19)), o 3 (.mov (.c (.bool true)))])
      .ret) (.seq (.reg [o 21 (.faddr 0 (.t 4)), o 22 (.load false 1 (.t 21)), o 23 (.bin .leq (.t 22) (.c (.int .u8 16))), o 20 (.mov (.t 23))])
      (.cond (.t 20) (.seq (.reg [o 24 (.build [(.int .u8 0), (.int .u32 0), (.int .u32 0), (.int .u32 0), (.int .u32 0), (.int .u64 0)] []), u (.store 6 (.t 2) (.t 24)), o 3 (.mov (.c (.bool false)))])
        .ret) .skip)))))
  (.seq (.dreg [(o 25 (.faddr 0 (.t 4)), []), (o 26 (.load false 1 (.t 25)), []), (o 27 (.bin .sub (.t 26) (.c (.int .u8 16))), []), (o 28 (.load true 10 (.t 1)), [1]), (o 29 (.faddr 2 (.t 4)), []), (o 30 (.load false 1 (.t 29)), [1, 3]), (o 31 (.call (cf fn_task_Task_reg) [(.t 28), (.t 30)]), [1]), (o 32 (.conv .u32 (.t 31)), []), (o 33 (.load true 10 (.t 1)), [1, 3, 5, 6]), (o 34 (.faddr 3 (.t 4)), []), (o 35 (.load false 1 (.t 34)), [1, 3, 5, 6, 8]), (o 36 (.call (cf fn_task_Task_reg) [(.t 33), (.t 35)]), [1]), (o 37 (.conv .u32 (.t 36)), []), (o 38 (.faddr 2 (.t 1)), []), (o 39 (.iaddra 8 1 (.t 38) (ci 6)), []), (o 40 (.load false 1 (.t 39)), [1, 3, 5, 6, 8, 10, 11]), (o 41 (.conv .u32 (.t 40)), []), (o 42 (.faddr 4 (.t 4)), []), (o 43 (.load false 1 (.t 42)), [1, 3, 5, 6, 8, 10, 11, 15]), (o 44 (.conv .u32 (.t 43)), []), (o 45 (.faddr 2 (.t 1)), []), (o 46 (.iaddra 8 1 (.t 45) (ci 5)), []), (o 47 (.load false 1 (.t 46)), [1, 3, 5, 6, 8, 10, 11, 15, 18]), (o 48 (.build [(.int .u8 0), (.int .u32 0), (.int .u32 0), (.int .u32 0), (.int .u32 0), (.int .u64 0)] [(0, 1, (.t 27)), (1, 1, (.t 32)), (2, 1, (.t 37)), (3, 1, (.t 41)), (4, 1, (.t 44)), (5, 1, (.t 47))]), []), (u (.store 6 (.t 2) (.t 48)), []), (o 3 (.mov (.c (.bool true))), [])])
  .ret))))⟩

def pf_Pmachine_Machine_calls : PF := ⟨72, [],
  (.seq (.reg [o 10 (.mov (.t 0)), o 11 (.mov (.t 1)), o 12 (.nilck (.t 10)), o 13 (.faddr 1 (.t 12)), o 14 (.iaddra 8 24 (.t 13) (.t 11)), o 4 (.mov (.t 14))])
  (.seq (.reg [o 15 (.mov (.t 0)), o 16 (.nilck (.t 15)), o 17 (.faddr 0 (.t 16)), o 18 (.load false 1 (.t 17)), o 19 (.nilck (.t 18)), o 20 (.faddr 1273 (.t 19)), o 21 (.load false 1 (.t 20)), o 22 (.len .sl (.t 21)), o 5 (.mov (.t 22))])
  (.seq (.reg [o 23 (.mov (.t 4)), o 24 (.nilck (.t 23)), o 25 (.faddr 10 (.t 24)), o 26 (.faddr 9 (.t 25)), o 27 (.load true 2 (.t 26)), o 6 (.alloc [(.int .i64 0), (.int .i64 0)] none), u (.store 2 (.t 6) (.t 27))])
  (.seq (.dreg [(o 29 (.mov (.t 0)), []), (o 30 (.nilck (.t 29)), []), (o 31 (.faddr 0 (.t 30)), []), (o 32 (.load false 1 (.t 31)), []), (o 33 (.mov (.t 4)), []), (o 34 (.nilck (.t 33)), []), (o 35 (.faddr 10 (.t 34)), []), (o 36 (.load true 12 (.t 35)), [3]), (o 37 (.call (cf fn_Pcall_Core_Step) [(.t 32), (.t 36)]), []), (o 28 (.mov (.t 37)), []), (o 38 (.ext (.t 28) 0), []), (o 39 (.ext (.t 28) 1), []), (o 40 (.ext (.t 28) 2), []), (o 7 (.alloc [(.int .i64 0), (.int .u8 0), (.int .u32 0), (.int .u32 0), (.int .u32 0), (.int .u32 0), (.int .u64 0), (.bool false), .nils, (.int .i64 0), (.int .i64 0), (.int .i64 0)] none), [3, 7, 8]), (o 8 (.alloc [(.int .i64 0), (.int .u64 0), (.int .u32 0)] none), [3, 7, 8, 13]), (u (.store 12 (.t 7) (.t 38)), []), (u (.store 3 (.t 8) (.t 39)), []), (o 9 (.mov (.t 40)), [])])
  (.seq (.reg [o 41 (.mov (.t 4)), o 42 (.load true 12 (.t 7)), o 43 (.nilck (.t 41)), o 44 (.faddr 10 (.t 43)), u (.store 12 (.t 44) (.t 42))])
  (.seq (.reg [o 45 (.mov (.t 9))])
  (.cond (.t 45) (.seq (.seq (.reg [o 46 (.faddr 0 (.t 8)), o 47 (.load false 1 (.t 46)), o 48 (.ne .int (.t 47) (ci 0)), o 49 (.mov (.t 48)), gf 49 (some 50) (.faddr 1 (.t 7)), gf 49 (some 51) (.faddr 0 (.t 50)), gf 49 (some 52) (.load false 1 (.t 51)), gf 49 (some 53) (.ne .int (.t 52) (.c (.int .u8 2))), o 54 (.pick (.t 49) (.c (.bool true)) (.t 53))])
    (.cond (.t 54) (.reg [o 55 (.build [(.int .i64 0), (.int .i64 0)] []), u (.store 2 (.t 6) (.t 55))]) .skip))
    (.dreg [(o 56 (.mov (.t 0)), []), (o 57 (.mov (.t 1)), []), (o 58 (.load true 12 (.t 7)), []), (o 59 (.load true 2 (.t 6)), [2]), (o 60 (.mov (.t 5)), []), (o 61 (.mov (.t 0)), []), (o 62 (.nilck (.t 61)), []), (o 63 (.faddr 0 (.t 62)), []), (o 64 (.load false 1 (.t 63)), [2, 3]), (o 65 (.nilck (.t 64)), []), (o 66 (.faddr 1273 (.t 65)), []), (o 67 (.load false 1 (.t 66)), [2, 3]), (o 68 (.len .sl (.t 67)), [2, 3]), (o 69 (.call (cf fn_machine_handed) [(.t 59), (.t 60), (.t 68)]), [2]), (o 70 (.load true 3 (.t 8)), [2, 3, 8, 11, 12, 13]), (o 71 (.call (cf fn_Pmachine_Machine_ended) [(.t 56), (.t 57), (.t 58), (.t 69), (.t 70)]), [])])) .skip)))))))⟩

def pf_task_Task_Step : PF := ⟨53, [.cell 2 true 10],
  (.seq (.reg [o 1 (.box (.t 0)), o 2 (.alloc [.nils, (.int .i64 0), (.int .u64 0), (.int .u64 0), (.int .u64 0), (.int .u64 0), (.int .u64 0), (.int .u64 0), (.int .u64 0), (.int .u64 0)] none)])
  (.seq (.seq (.reg [o 13 (.load true 10 (.t 1)), o 14 (.call (cf fn_task_Task_Wants) [(.t 13)]), o 12 (.mov (.t 14)), o 15 (.ext (.t 12) 0), o 16 (.ext (.t 12) 1), o 3 (.alloc [(.int .u8 0), (.int .u32 0), (.int .u32 0), (.int .u32 0), (.int .u32 0), (.int .u64 0)] none), u (.store 6 (.t 3) (.t 15)), o 4 (.mov (.t 16))])
  (.seq (.reg [o 17 (.mov (.t 4))])
  (.cond (.t 17) (.seq (.reg [o 18 (.load true 10 (.t 1)), u (.store 10 (.t 2) (.t 18))])
    .ret) .skip)))
  (.seq (.reg [o 20 (.load true 10 (.t 1)), o 21 (.call (cf fn_task_Task_instr) [(.t 20)]), o 19 (.mov (.t 21)), o 22 (.ext (.t 19) 0), o 23 (.ext (.t 19) 1), o 5 (.alloc [(.int .u8 0), (.int .u8 0), (.int .u8 0), (.int .u8 0), (.int .u16 0)] none), u (.store 5 (.t 5) (.t 22)), o 6 (.mov (.t 23))])
  (.seq (.reg [o 24 (.faddr 1 (.t 5)), o 25 (.load false 1 (.t 24)), o 26 (.bin .rem (.t 25) (.c (.int .u8 8))), o 27 (.faddr 2 (.t 1)), o 28 (.iaddra 8 1 (.t 27) (.t 26)), o 7 (.alloc [.nilp] none), u (.store 1 (.t 7) (.t 28))])
  (.seq (.reg [o 29 (.faddr 1 (.t 1)), o 30 (.load false 1 (.t 29)), o 31 (.bin .add (.t 30) (ci 1)), o 8 (.alloc [(.int .i64 0)] none), u (.store 1 (.t 8) (.t 31))])
  (.seq (.reg [o 32 .mkmap, o 33 (.mkf (.func fn_task_Task_Step_1) [] [(.t 5), (.t 7)]), u (.mput .int (.t 32) (.c (.int .u8 1)) (.t 33)), o 34 (.mkf (.func fn_task_Task_Step_2) [] [(.t 1), (.t 5), (.t 7)]), u (.mput .int (.t 32) (.c (.int .u8 2)) (.t 34)), o 35 (.mkf (.func fn_task_Task_Step_3) [] [(.t 1), (.t 5), (.t 7)]), u (.mput .int (.t 32) (.c (.int .u8 3)) (.t 35)), o 36 (.mkf (.func fn_task_Task_Step_4) [] [(.t 1), (.t 5), (.t 7)]), u (.mput .int (.t 32) (.c (.int .u8 4)) (.t 36)), o 37 (.mkf (.func fn_task_Task_Step_5) [] [(.t 5), (.t 8)]), u (.mput .int (.t 32) (.c (.int .u8 5)) (.t 37)), o 38 (.mkf (.func fn_task_Task_Step_6) [] [(.t 7), (.t 5), (.t 8)]), u (.mput .int (.t 32) (.c (.int .u8 6)) (.t 38)), o 39 (.mov (.t 32)), o 9 (.mov (.t 39))])
  (.seq (.seq (.reg [o 41 (.mov (.t 9)), o 42 (.faddr 0 (.t 5)), o 43 (.load false 1 (.t 42)), o 44 (.lookup .int .nilf (.t 41) (.t 43) true), o 40 (.mov (.t 44)), o 45 (.ext (.t 40) 0), o 46 (.ext (.t 40) 1), o 10 (.mov (.t 45)), o 11 (.mov (.t 46))])
  (.seq (.reg [o 47 (.mov (.t 11))])
  (.cond (.t 47) (.reg [o 48 (.mov (.t 10)), o 49 (.call (.t 48) [])]) .skip)))
  (.seq (.reg [o 50 (.load false 1 (.t 8)), o 51 (.faddr 1 (.t 1)), u (.store 1 (.t 51) (.t 50))])
  (.seq (.reg [o 52 (.load true 10 (.t 1)), u (.store 10 (.t 2) (.t 52))])
  .ret)))))))))⟩

def pf_Pcall_Core_Cut : PF := ⟨18, [],
  (.seq (.reg [o 3 (.box (.t 1))])
  (.seq (.reg [o 4 (.mov (.t 0)), o 5 (.faddr 9 (.t 3)), o 6 (.load true 2 (.t 5)), o 7 (.call (cf fn_Pcall_Core_queue) [(.t 4), (.t 6)])])
  (.dreg [(o 8 (.mov (.t 0)), []), (o 9 (.mov (.t 0)), []), (o 10 (.nilck (.t 9)), []), (o 11 (.faddr 953 (.t 10)), []), (o 12 (.load true 320 (.t 11)), []), (o 13 (.faddr 0 (.t 3)), []), (o 14 (.load false 1 (.t 13)), [4]), (o 15 (.call (cf fn_mark_Marks_Gone) [(.t 12), (.t 14)]), []), (o 16 (.nilck (.t 8)), []), (o 17 (.faddr 953 (.t 16)), []), (u (.store 320 (.t 17) (.t 15)), [])])))⟩

def pf_plan_Waits : PF := ⟨17, [.t 6],
  (.seq (.reg [o 3 (.box (.t 0)), o 5 (.box (.t 2)), o 6 (.mov (.c (.bool false)))])
  (.seq (.reg [o 7 (.faddr 0 (.t 5)), o 8 (.load false 1 (.t 7)), o 9 (.eq .int (.t 8) (.c (.int .u8 15))), o 10 (.mov (.t 9)), gt 10 (some 11) (.load true 952 (.t 3)), gt 10 (some 12) (.mov (.t 1)), gt 10 (some 13) (.load true 6 (.t 5)), gt 10 (some 14) (.call (cf fn_plan_Check) [(.t 11), (.t 12), (.t 13)]), gt 10 (some 15) (.eq .int (.t 14) (ci 10)), o 16 (.pick (.t 10) (.t 15) (.c (.bool false))), o 6 (.mov (.t 16))])
  .ret))⟩

def pf_model_State_Needs : PF := ⟨26, [.t 6],
  (.seq (.reg [o 3 (.box (.t 0)), o 5 (.box (.t 2)), o 6 (.mov (ci 0))])
  (.seq (.reg [o 8 (.load true 952 (.t 3)), o 9 (.mov (.t 1)), o 10 (.load true 6 (.t 5)), o 11 (.build z964_ded6 [(0, 952, (.t 8)), (952, 1, (.t 9)), (953, 6, (.t 10)), (962, 1, (.c (.bool true)))]), o 12 (.box (.t 11)), o 7 (.mov (.t 12))])
  (.seq (.seq (.reg [o 13 (.faddr 0 (.t 5)), o 14 (.load false 1 (.t 13)), o 15 (.ne .int (.t 14) (.c (.int .u8 2))), o 16 (.mov (.t 15)), gf 16 (some 17) (.mov (.t 7)), gf 16 (some 18) (.call (cf fn_Pmodel_caller_calls) [(.t 17)]), gf 16 (some 19) (.fld false 1 0 (.t 18)), gf 16 (some 20) (.ne .int (.t 19) (ci 0)), o 21 (.pick (.t 16) (.c (.bool true)) (.t 20))])
  (.cond (.t 21) (.seq (.reg [o 6 (.mov (ci 0))])
    .ret) .skip))
  (.seq (.reg [o 22 (.mov (.t 7)), o 23 (.nilck (.t 22)), o 24 (.faddr 961 (.t 23)), o 25 (.load false 1 (.t 24)), o 6 (.mov (.t 25))])
  .ret))))⟩

def pd_Pmodel_caller_calls : PDef := ⟨47, [.cell 2 true 3],
  (.later (.reg [o 2 (.alloc [(.int .i64 0), (.int .u64 0), (.int .u32 0)] none)])
  (.here [o 5 (.mkf (.func fn_Pmodel_caller_calls_1) [] [(.t 2)])] (.t 5) []
  (.seq (.dreg [(o 6 (.mov (.t 0)), []), (o 7 (.nilck (.t 6)), []), (o 8 (.faddr 952 (.t 7)), []), (o 9 (.load false 1 (.t 8)), []), (o 10 (.bin .geq (.t 9) (ci 0)), []), (o 11 (.mov (.t 10)), []), (gt 11 (some 12) (.mov (.t 0)), []), (gt 11 (some 13) (.nilck (.t 12)), []), (gt 11 (some 14) (.faddr 952 (.t 13)), []), (gt 11 (some 15) (.load false 1 (.t 14)), []), (gt 11 (some 16) (.bin .lss (.t 15) (ci 8)), []), (o 17 (.pick (.t 11) (.t 16) (.c (.bool false))), []), (o 18 (.mov (.t 17)), []), (gt 18 (some 19) (.mov (.t 0)), []), (gt 18 (some 20) (.mov (.t 0)), []), (gt 18 (some 21) (.nilck (.t 20)), []), (gt 18 (some 22) (.faddr 952 (.t 21)), []), (gt 18 (some 23) (.load false 1 (.t 22)), []), (gt 18 (some 24) (.bin .and (.t 23) (ci 7)), []), (gt 18 (some 25) (.nilck (.t 19)), []), (gt 18 (some 26) (.faddr 0 (.t 25)), []), (gt 18 (some 27) (.faddr 936 (.t 26)), []), (gt 18 (some 28) (.iaddra 8 1 (.t 27) (.t 24)), []), (gt 18 (some 29) (.load false 1 (.t 28)), []), (o 30 (.pick (.t 18) (.t 29) (.c (.bool false))), []), (o 31 (.call (cf fn_model_ask) [(.t 30), (ci 12)]), [])])
  (.seq (.dreg [(o 33 (.load false 1 (.c (.glob g_model_does))), []), (o 34 (.mov (.t 0)), []), (o 35 (.nilck (.t 34)), []), (o 36 (.faddr 953 (.t 35)), []), (o 37 (.faddr 0 (.t 36)), []), (o 38 (.load false 1 (.t 37)), [0]), (o 39 (.lookup .int .nilf (.t 33) (.t 38) true), []), (o 32 (.mov (.t 39)), []), (o 40 (.ext (.t 32) 0), []), (o 41 (.ext (.t 32) 1), []), (o 3 (.mov (.t 40)), []), (o 4 (.mov (.t 41)), [])])
  (.seq (.reg [o 42 (.mov (.t 4)), o 43 (.call (cf fn_model_ask) [(.t 42), (ci 2)])])
  (.seq (.reg [o 44 (.mov (.t 3)), o 45 (.mov (.t 0)), o 46 (.call (.t 44) [(.t 45)]), u (.store 3 (.t 2) (.t 46))])
  .ret))))))⟩

def pf_own_Owns_Of : PF := ⟨35, [.cell 6 true 3],
  (.seq (.reg [o 3 (.box (.t 0)), o 4 (.box (.t 1)), o 6 (.alloc [(.int .u8 0), (.int .u8 0), (.int .u8 0)] none)])
  (.seq (.reg [o 10 (.load true 480 (.t 4)), o 11 (.mov (.t 2)), o 12 (.call (cf fn_forest_Root) [(.t 10), (.t 11)]), o 7 (.mov (.t 12))])
  (.seq (.reg [o 14 (.mov (.t 7)), o 15 (.call (cf fn_handle_Handle_Slot) [(.t 14)]), o 13 (.mov (.t 15)), o 16 (.ext (.t 13) 0), o 17 (.ext (.t 13) 1), o 8 (.mov (.t 16)), o 9 (.mov (.t 17))])
  (.seq (.seq (.reg [o 18 (.mov (.t 9)), o 19 (.un .not (.t 18)), o 20 (.mov (.t 19)), gf 20 (some 21) (.mov (.t 8)), gf 20 (some 22) (.faddr 0 (.t 3)), gf 20 (some 23) (.iaddra 32 4 (.t 22) (.t 21)), gf 20 (some 24) (.faddr 0 (.t 23)), gf 20 (some 25) (.load false 1 (.t 24)), gf 20 (some 26) (.mov (.t 7)), gf 20 (some 27) (.ne .int (.t 25) (.t 26)), o 28 (.pick (.t 20) (.c (.bool true)) (.t 27))])
  (.cond (.t 28) (.seq (.reg [o 29 (.build [(.int .u8 0), (.int .u8 0), (.int .u8 0)] []), u (.store 3 (.t 6) (.t 29))])
    .ret) .skip))
  (.seq (.reg [o 30 (.mov (.t 8)), o 31 (.faddr 0 (.t 3)), o 32 (.iaddra 32 4 (.t 31) (.t 30)), o 33 (.faddr 1 (.t 32)), o 34 (.load true 3 (.t 33)), u (.store 3 (.t 6) (.t 34))])
  .ret)))))⟩

def pf_token_Tokens_Of : PF := ⟨8, [.t 4],
  (.seq (.reg [o 2 (.box (.t 0)), o 3 (.box (.t 1)), o 4 (.mov (.c .nils))])
  (.seq (.reg [o 5 (.load true 176 (.t 2)), o 6 (.mkf (.func fn_token_Tokens_Of_1) [] [(.t 3)]), o 7 (.call (cf fn_token_Tokens_those) [(.t 5), (.t 6)]), o 4 (.mov (.t 7))])
  .ret))⟩

def pf_handle_Handle_Slot : PF := ⟨21, [.t 2, .t 3],
  (.seq (.reg [o 2 (.mov (ci 0)), o 3 (.mov (.c (.bool false)))])
  (.seq (.reg [o 5 (.mov (.t 0)), o 6 (.bin .and (.t 5) (.c (.int .u32 255))), o 7 (.conv .i64 (.t 6)), o 8 (.bin .sub (.t 7) (ci 1)), o 4 (.mov (.t 8))])
  (.seq (.seq (.reg [o 9 (.mov (.t 4)), o 10 (.bin .lss (.t 9) (ci 0)), o 11 (.mov (.t 10)), gf 11 (some 12) (.mov (.t 4)), gf 11 (some 13) (.bin .geq (.t 12) (ci 32)), o 14 (.pick (.t 11) (.c (.bool true)) (.t 13)), o 15 (.mov (.t 14)), gf 15 (some 16) (.mov (.t 0)), gf 15 (some 17) (.shf .shr (.t 16) (.c (.int .u64 8))), gf 15 (some 18) (.bin .gtr (.t 17) (.c (.int .u32 8388607))), o 19 (.pick (.t 15) (.c (.bool true)) (.t 18))])
  (.cond (.t 19) (.seq (.reg [o 2 (.mov (ci 0)), o 3 (.mov (.c (.bool false)))])
    .ret) .skip))
  (.seq (.reg [o 20 (.mov (.t 4)), o 2 (.mov (.t 20)), o 3 (.mov (.c (.bool true)))])
  .ret))))⟩

def pf_token_Tokens_Get : PF := ⟨23, [.cell 4 true 5, .t 5],
  (.seq (.reg [o 2 (.box (.t 0)), o 4 (.alloc [(.int .u32 0), (.int .u8 0), (.int .u8 0), (.bool false), (.int .u32 0)] none), o 5 (.mov (ci 0))])
  (.seq (.seq (.reg [o 8 (.faddr 0 (.t 2)), o 9 (.load true 96 (.t 8)), o 10 (.mov (.t 1)), o 11 (.call (cf fn_handle_Book_Good) [(.t 9), (.t 10)]), o 12 (.un .not (.t 11))])
  (.cond (.t 12) (.seq (.reg [o 13 (.build [(.int .u32 0), (.int .u8 0), (.int .u8 0), (.bool false), (.int .u32 0)] []), u (.store 5 (.t 4) (.t 13)), o 5 (.mov (ci 4))])
    .ret) .skip))
  (.seq (.reg [o 15 (.mov (.t 1)), o 16 (.call (cf fn_handle_Handle_Slot) [(.t 15)]), o 14 (.mov (.t 16)), o 17 (.ext (.t 14) 0), o 18 (.ext (.t 14) 1), o 6 (.mov (.t 17)), o 7 (.mov (.t 18))])
  (.seq (.reg [o 19 (.mov (.t 6)), o 20 (.faddr 96 (.t 2)), o 21 (.iaddra 16 5 (.t 20) (.t 19)), o 22 (.load true 5 (.t 21)), u (.store 5 (.t 4) (.t 22)), o 5 (.mov (ci 0))])
  .ret))))⟩

def pf_mail_Box_each : PF := ⟨4, [.t 2],
  (.seq (.reg [o 1 (.box (.t 0)), o 2 (.mov (.c .nilf))])
  (.seq (.reg [o 3 (.mkf (.func fn_mail_Box_each_1) [] [(.t 1)]), o 2 (.mov (.t 3))])
  .ret))⟩

def pf_slices_Clip_mail_Message_mail_Message : PF := ⟨9, [.t 2],
  (.seq (.reg [o 2 (.mov (.c .nils))])
  (.seq (.reg [o 3 (.mov (.t 0)), o 4 (.mov (.t 0)), o 5 (.len .sl (.t 4)), o 6 (.mov (.t 0)), o 7 (.len .sl (.t 6)), o 8 (.slsl 4 (.t 3) none (some (.t 5)) (some (.t 7))), o 2 (.mov (.t 8))])
  .ret))⟩

def l1_handle_Book_Issued : PC :=
  (.seq (.reg [o 8 (.bin .lss (.t 7) (ci 32))])
  (.seq (.cond (.t 8) .skip (.exit 0))
  (.seq (.block 1 (.seq (.reg [o 9 (.mov (.t 7)), o 4 (.mov (.t 9))])
    (.seq (.reg [o 11 (.load true 96 (.t 1)), o 12 (.mov (.t 4)), o 13 (.call (cf fn_handle_Book_At) [(.t 11), (.t 12)]), o 10 (.mov (.t 13)), o 14 (.ext (.t 10) 0), o 15 (.ext (.t 10) 1), o 5 (.mov (.t 14)), o 6 (.mov (.t 15))])
    (.seq (.reg [o 16 (.mov (.t 6))])
    (.cond (.t 16) (.reg [o 17 (.mov (.t 3)), o 18 (.mov (.t 5)), o 19 (.bslice [(.int .u32 0)] 1 [(0, 1, (.t 18))]), o 20 (.append ty_handle_Handle 1 4 (.t 17) (.t 19)), o 3 (.mov (.t 20))]) .skip)))))
  (.reg [o 21 (.bin .add (.t 7) (ci 1)), o 7 (.mov (.t 21))]))))
def pf_handle_Book_Issued : PF := ⟨23, [.t 2],
  (.seq (.reg [o 1 (.box (.t 0)), o 2 (.mov (.c .nils))])
  (.seq (.reg [o 3 (.mov (.c .nils))])
  (.seq (.seq (.reg [o 7 (.mov (ci 0))])
  (.block 0 (.loop l1_handle_Book_Issued)))
  (.seq (.reg [o 22 (.mov (.t 3)), o 2 (.mov (.t 22))])
  .ret))))⟩

def pf_handle_Book_Good : PF := ⟨23, [.t 4],
  (.seq (.reg [o 2 (.box (.t 0)), o 4 (.mov (.c (.bool false)))])
  (.seq (.reg [o 8 (.mov (.t 1)), o 9 (.call (cf fn_handle_Handle_Slot) [(.t 8)]), o 7 (.mov (.t 9)), o 10 (.ext (.t 7) 0), o 11 (.ext (.t 7) 1), o 5 (.mov (.t 10)), o 6 (.mov (.t 11))])
  (.seq (.reg [o 12 (.mov (.t 6)), o 13 (.mov (.t 12)), gt 13 (some 14) (.mov (.t 5)), gt 13 (some 15) (.faddr 0 (.t 2)), gt 13 (some 16) (.iaddra 32 3 (.t 15) (.t 14)), gt 13 (some 17) (.load true 3 (.t 16)), gt 13 (some 18) (.mov (.t 1)), gt 13 (some 19) (.shf .shr (.t 18) (.c (.int .u64 8))), gt 13 (some 20) (.build [(.int .u32 0), (.bool false), (.bool false)] [(0, 1, (.t 19)), (1, 1, (.c (.bool true)))]), gt 13 (some 21) (.eq (.agg [.int, .bool, .bool]) (.t 17) (.t 20)), o 22 (.pick (.t 13) (.t 21) (.c (.bool false))), o 4 (.mov (.t 22))])
  .ret)))⟩

def pf_table_Table_up : PF := ⟨24, [.t 4],
  (.seq (.reg [o 2 (.box (.t 0)), o 4 (.mov (.c (.int .u32 0)))])
  (.seq (.reg [o 9 (.mov (.t 1)), o 10 (.call (cf fn_handle_Handle_Slot) [(.t 9)]), o 8 (.mov (.t 10)), o 11 (.ext (.t 8) 0), o 12 (.ext (.t 8) 1), o 5 (.mov (.t 11)), o 6 (.mov (.t 12))])
  (.seq (.seq (.reg [o 13 (.mov (.t 5)), o 14 (.faddr 96 (.t 2)), o 15 (.iaddra 32 12 (.t 14) (.t 13)), o 16 (.faddr 0 (.t 15)), o 17 (.load false 1 (.t 16)), o 7 (.mov (.t 17))])
  (.seq (.reg [o 18 (.faddr 0 (.t 2)), o 19 (.faddr 0 (.t 18)), o 20 (.load true 96 (.t 19)), o 21 (.mov (.t 7)), o 22 (.call (cf fn_handle_Book_Good) [(.t 20), (.t 21)])])
  (.cond (.t 22) (.seq (.reg [o 23 (.mov (.t 7)), o 4 (.mov (.t 23))])
    .ret) .skip)))
  (.seq (.reg [o 4 (.mov (.c (.int .u32 0)))])
  .ret))))⟩

def pf_extent_Extent_chunks : PF := ⟨4, [.t 2],
  (.seq (.reg [o 1 (.box (.t 0)), o 2 (.mov (.c .nilf))])
  (.seq (.reg [o 3 (.mkf (.func fn_extent_Extent_chunks_1) [] [(.t 1)]), o 2 (.mov (.t 3))])
  .ret))⟩

def pf_Ppool_Pool_byte : PF := ⟨18, [.t 6],
  (.seq (.reg [o 4 (.box (.t 1)), o 5 (.box (.t 2)), o 6 (.mov (ci 0))])
  (.seq (.seq (.reg [o 7 (.mov (.t 0)), o 8 (.ne .ptr (.t 7) (.c .nilp)), o 9 (.mov (.t 8)), gt 9 (some 10) (.load false 1 (.t 4)), gt 9 (some 11) (.bin .lss (.t 10) (ci 0)), o 12 (.pick (.t 9) (.t 11) (.c (.bool false)))])
  (.cond (.t 12) (.seq (.reg [o 6 (.mov (ci 2))])
    .ret) .skip))
  (.seq (.reg [o 13 (.mov (.t 0)), o 14 (.load false 1 (.t 4)), o 15 (.bin .quo (.t 14) (ci 32)), o 16 (.mkf (.func fn_Ppool_Pool_byte_1) [] [(.t 5), (.t 4)]), o 17 (.call (cf fn_Ppool_Pool_lent) [(.t 13), (.t 15), (.t 16)]), o 6 (.mov (.t 17))])
  .ret)))⟩

def pf_Ppool_Pool_Read_1 : PF := ⟨6, [],
  (.reg [o 3 (.mov (.t 0)), o 4 (.nilck (.t 3)), o 5 (.load false 1 (.t 4)), u (.store 1 (.t 1) (.t 5))])⟩

def pf_slices_Clone_handle_Handle_handle_Handle : PF := ⟨8, [.t 2],
  (.seq (.reg [o 2 (.mov (.c .nils))])
  (.seq (.seq (.reg [o 3 (.mov (.t 0)), o 4 (.eq .sl (.t 3) (.c .nils))])
  (.cond (.t 4) (.seq (.reg [o 2 (.mov (.c .nils))])
    .ret) .skip))
  (.seq (.reg [o 5 (.bslice [(.int .u32 0)] 0 []), o 6 (.mov (.t 0)), o 7 (.append ty_handle_Handle 1 4 (.t 5) (.t 6)), o 2 (.mov (.t 7))])
  .ret)))⟩

def pf_mark_may : PF := ⟨19, [.t 4],
  (.seq (.reg [o 4 (.mov (.c (.bool false)))])
  (.seq (.reg [o 5 (.mov (.t 0)), o 6 (.bin .geq (.t 5) (ci 0)), o 7 (.mov (.t 6)), gt 7 (some 8) (.mov (.t 0)), gt 7 (some 9) (.bin .lss (.t 8) (ci 32)), o 10 (.pick (.t 7) (.t 9) (.c (.bool false))), o 11 (.mov (.t 10)), gt 11 (some 12) (.mov (.t 1)), gt 11 (some 13) (.bin .geq (.t 12) (ci 0)), o 14 (.pick (.t 11) (.t 13) (.c (.bool false))), o 15 (.mov (.t 14)), gt 15 (some 16) (.mov (.t 1)), gt 15 (some 17) (.bin .lss (.t 16) (ci 8)), o 18 (.pick (.t 15) (.t 17) (.c (.bool false))), o 4 (.mov (.t 18))])
  .ret))⟩

def l1_slices_IndexFunc_runs_Run_runs_Run : PC :=
  (.seq (.reg [o 9 (.bin .lss (.t 8) (.t 7))])
  (.seq (.cond (.t 9) .skip (.exit 0))
  (.seq (.block 1 (.seq (.reg [o 10 (.mov (.t 8)), o 5 (.mov (.t 10))])
    (.seq (.reg [o 11 (.mov (.t 1)), o 12 (.mov (.t 0)), o 13 (.mov (.t 5)), o 14 (.iaddrs 2 (.t 12) (.t 13)), o 15 (.load true 2 (.t 14)), o 16 (.call (.t 11) [(.t 15)])])
    (.cond (.t 16) (.seq (.reg [o 17 (.mov (.t 5)), o 4 (.mov (.t 17))])
      .ret) .skip))))
  (.reg [o 18 (.bin .add (.t 8) (ci 1)), o 8 (.mov (.t 18))]))))
def pf_slices_IndexFunc_runs_Run_runs_Run : PF := ⟨19, [.t 4],
  (.seq (.reg [o 4 (.mov (ci 0))])
  (.seq (.seq (.reg [o 6 (.mov (.t 0)), o 7 (.len .sl (.t 6)), o 8 (.mov (ci 0))])
  (.block 0 (.loop l1_slices_IndexFunc_runs_Run_runs_Run)))
  (.seq (.reg [o 4 (.mov (ci (-1)))])
  .ret)))⟩

def pf_runs_Run_end : PF := ⟨8, [.t 2],
  (.seq (.reg [o 1 (.box (.t 0)), o 2 (.mov (ci 0))])
  (.seq (.reg [o 3 (.faddr 0 (.t 1)), o 4 (.load false 1 (.t 3)), o 5 (.faddr 1 (.t 1)), o 6 (.load false 1 (.t 5)), o 7 (.bin .add (.t 4) (.t 6)), o 2 (.mov (.t 7))])
  .ret))⟩

def pf_code_May : PF := ⟨12, [.t 2],
  (.seq (.reg [o 1 (.box (.t 0)), o 2 (.mov (.c (.bool false)))])
  (.seq (.reg [o 3 (.load false 1 (.t 1)), o 4 (.len .sl (.t 3)), o 5 (.bin .leq (.t 4) (ci 64)), o 6 (.mov (.t 5)), gt 6 (some 7) (.load false 1 (.t 1)), gt 6 (some 8) (.mkf (.func fn_code_May_1) [] [(.t 1)]), gt 6 (some 9) (.call (cf fn_slices_ContainsFunc_code_Instr_code_Instr) [(.t 7), (.t 8)]), gt 6 (some 10) (.un .not (.t 9)), o 11 (.pick (.t 6) (.t 10) (.c (.bool false))), o 2 (.mov (.t 11))])
  .ret))⟩

def l1_slices_IndexFunc_string_string : PC :=
  (.seq (.reg [o 9 (.bin .lss (.t 8) (.t 7))])
  (.seq (.cond (.t 9) .skip (.exit 0))
  (.seq (.block 1 (.seq (.reg [o 10 (.mov (.t 8)), o 5 (.mov (.t 10))])
    (.seq (.reg [o 11 (.mov (.t 1)), o 12 (.mov (.t 0)), o 13 (.mov (.t 5)), o 14 (.iaddrs 1 (.t 12) (.t 13)), o 15 (.load false 1 (.t 14)), o 16 (.call (.t 11) [(.t 15)])])
    (.cond (.t 16) (.seq (.reg [o 17 (.mov (.t 5)), o 4 (.mov (.t 17))])
      .ret) .skip))))
  (.reg [o 18 (.bin .add (.t 8) (ci 1)), o 8 (.mov (.t 18))]))))
def pf_slices_IndexFunc_string_string : PF := ⟨19, [.t 4],
  (.seq (.reg [o 4 (.mov (ci 0))])
  (.seq (.seq (.reg [o 6 (.mov (.t 0)), o 7 (.len .sl (.t 6)), o 8 (.mov (ci 0))])
  (.block 0 (.loop l1_slices_IndexFunc_string_string)))
  (.seq (.reg [o 4 (.mov (ci (-1)))])
  .ret)))⟩

def l1_slices_IndexFunc_uint8_uint8 : PC :=
  (.seq (.reg [o 9 (.bin .lss (.t 8) (.t 7))])
  (.seq (.cond (.t 9) .skip (.exit 0))
  (.seq (.block 1 (.seq (.reg [o 10 (.mov (.t 8)), o 5 (.mov (.t 10))])
    (.seq (.reg [o 11 (.mov (.t 1)), o 12 (.mov (.t 0)), o 13 (.mov (.t 5)), o 14 (.iaddrs 1 (.t 12) (.t 13)), o 15 (.load false 1 (.t 14)), o 16 (.call (.t 11) [(.t 15)])])
    (.cond (.t 16) (.seq (.reg [o 17 (.mov (.t 5)), o 4 (.mov (.t 17))])
      .ret) .skip))))
  (.reg [o 18 (.bin .add (.t 8) (ci 1)), o 8 (.mov (.t 18))]))))
def pf_slices_IndexFunc_uint8_uint8 : PF := ⟨19, [.t 4],
  (.seq (.reg [o 4 (.mov (ci 0))])
  (.seq (.seq (.reg [o 6 (.mov (.t 0)), o 7 (.len .sl (.t 6)), o 8 (.mov (ci 0))])
  (.block 0 (.loop l1_slices_IndexFunc_uint8_uint8)))
  (.seq (.reg [o 4 (.mov (ci (-1)))])
  .ret)))⟩

def pf_runs_Of : PF := ⟨13, [.cell 2 true 1],
  (.seq (.reg [o 2 (.alloc [.nils] none)])
  (.seq (.reg [o 4 (.mov (.t 0)), o 5 (.min [(.t 4), (ci 64)]), o 3 (.mov (.t 5))])
  (.seq (.seq (.reg [o 6 (.mov (.t 3)), o 7 (.bin .lss (.t 6) (ci 1))])
  (.cond (.t 7) (.seq (.reg [o 8 (.build [.nils] []), u (.store 1 (.t 2) (.t 8))])
    .ret) .skip))
  (.seq (.reg [o 9 (.mov (.t 3)), o 10 (.build [(.int .i64 0), (.int .i64 0)] [(0, 1, (ci 0)), (1, 1, (.t 9))]), o 11 (.bslice [(.int .i64 0), (.int .i64 0)] 1 [(0, 2, (.t 10))]), o 12 (.build [.nils] [(0, 1, (.t 11))]), u (.store 1 (.t 2) (.t 12))])
  .ret))))⟩

def pf_Ppool_Pool_lent : PF := ⟨35, [.t 6],
  (.seq (.reg [o 6 (.mov (ci 0))])
  (.seq (.block 0 (.seq (.reg [o 8 (.mov (.t 0)), o 9 (.eq .ptr (.t 8) (.c .nilp)), o 7 (.mov (.t 9))])
    (.cond (.t 7) (.seq (.reg [o 6 (.mov (ci 1))])
      .ret) (.seq (.reg [o 11 (.mov (.t 1)), o 12 (.bin .lss (.t 11) (ci 0)), o 13 (.mov (.t 12)), gf 13 (some 14) (.mov (.t 1)), gf 13 (some 15) (.mov (.t 0)), gf 13 (some 16) (.nilck (.t 15)), gf 13 (some 17) (.faddr 0 (.t 16)), gf 13 (some 18) (.load false 1 (.t 17)), gf 13 (some 19) (.bin .geq (.t 14) (.t 18)), o 20 (.pick (.t 13) (.c (.bool true)) (.t 19)), o 10 (.mov (.t 20))])
      (.cond (.t 10) (.seq (.reg [o 6 (.mov (ci 2))])
        .ret) (.seq (.reg [o 22 (.mov (.t 0)), o 23 (.nilck (.t 22)), o 24 (.faddr 1 (.t 23)), o 25 (.load true 1 (.t 24)), o 26 (.mov (.t 1)), o 27 (.call (cf fn_runs_Runs_Has) [(.t 25), (.t 26)]), o 21 (.mov (.t 27))])
        (.cond (.t 21) (.seq (.reg [o 6 (.mov (ci 12))])
          .ret) .skip)))))))
  (.seq (.reg [o 28 (.mov (.t 2)), o 29 (.mov (.t 0)), o 30 (.mov (.t 1)), o 31 (.nilck (.t 29)), o 32 (.faddr 2 (.t 31)), o 33 (.iaddra 64 32 (.t 32) (.t 30)), o 34 (.call (.t 28) [(.t 33)])])
  (.seq (.reg [o 6 (.mov (ci 0))])
  .ret))))⟩

def pf_Ppool_Pool_Back_1 : PF := ⟨16, [],
  (.dreg [(o 5 (.load false 1 (.t 1)), []), (o 6 (.load false 1 (.t 1)), [0]), (o 7 (.nilck (.t 6)), []), (o 8 (.faddr 1 (.t 7)), []), (o 9 (.load true 1 (.t 8)), [0]), (o 10 (.load false 1 (.t 2)), [0, 1, 4]), (o 11 (.call (cf fn_runs_Runs_Give) [(.t 9), (.t 10), (ci 1)]), [0]), (o 4 (.mov (.t 11)), []), (o 12 (.ext (.t 4) 0), []), (o 13 (.ext (.t 4) 1), []), (o 14 (.nilck (.t 5)), []), (o 15 (.faddr 1 (.t 14)), []), (u (.store 1 (.t 15) (.t 12)), [])])⟩

def l1_runs_Runs_Give : PC :=
  (.block 1 (.block 2 (.seq (.dreg [(o 26 (.load true 2 (.t 12)), []), (o 27 (.call (cf fn_runs_Run_end) [(.t 26)]), []), (o 28 (.faddr 0 (.t 8)), []), (o 29 (.load false 1 (.t 28)), [0, 1]), (o 30 (.bin .lss (.t 27) (.t 29)), []), (o 25 (.mov (.t 30)), [])])
      (.cond (.t 25) (.reg [o 31 (.load false 1 (.t 9)), o 32 (.load true 2 (.t 12)), o 33 (.bslice [(.int .i64 0), (.int .i64 0)] 1 [(0, 2, (.t 32))]), o 34 (.append ty_runs_Run 2 16 (.t 31) (.t 33)), u (.store 1 (.t 9) (.t 34))]) (.seq (.dreg [(o 36 (.faddr 0 (.t 12)), []), (o 37 (.load false 1 (.t 36)), []), (o 38 (.load true 2 (.t 8)), [1]), (o 39 (.call (cf fn_runs_Run_end) [(.t 38)]), [1]), (o 40 (.bin .gtr (.t 37) (.t 39)), []), (o 35 (.mov (.t 40)), [])])
        (.cond (.t 35) (.seq (.seq (.reg [o 41 (.load false 1 (.t 10)), o 42 (.un .not (.t 41))])
          (.cond (.t 42) (.seq (.reg [o 43 (.load false 1 (.t 9)), o 44 (.load true 2 (.t 8)), o 45 (.bslice [(.int .i64 0), (.int .i64 0)] 1 [(0, 2, (.t 44))]), o 46 (.append ty_runs_Run 2 16 (.t 43) (.t 45)), u (.store 1 (.t 9) (.t 46))])
            (.reg [u (.store 1 (.t 10) (.c (.bool true)))])) .skip))
          (.reg [o 47 (.load false 1 (.t 9)), o 48 (.load true 2 (.t 12)), o 49 (.bslice [(.int .i64 0), (.int .i64 0)] 1 [(0, 2, (.t 48))]), o 50 (.append ty_runs_Run 2 16 (.t 47) (.t 49)), u (.store 1 (.t 9) (.t 50))])) (.seq (.dreg [(o 52 (.load true 2 (.t 12)), []), (o 53 (.call (cf fn_runs_Run_end) [(.t 52)]), []), (o 54 (.faddr 0 (.t 8)), []), (o 55 (.load false 1 (.t 54)), [0, 1]), (o 56 (.eq .int (.t 53) (.t 55)), []), (o 51 (.mov (.t 56)), [])])
          (.cond (.t 51) (.reg [o 57 (.faddr 0 (.t 12)), o 58 (.load false 1 (.t 57)), o 59 (.faddr 1 (.t 12)), o 60 (.load false 1 (.t 59)), o 61 (.faddr 1 (.t 8)), o 62 (.load false 1 (.t 61)), o 63 (.bin .add (.t 60) (.t 62)), o 64 (.build [(.int .i64 0), (.int .i64 0)] [(0, 1, (.t 58)), (1, 1, (.t 63))]), u (.store 2 (.t 8) (.t 64))]) (.seq (.dreg [(o 66 (.faddr 0 (.t 12)), []), (o 67 (.load false 1 (.t 66)), []), (o 68 (.load true 2 (.t 8)), [1]), (o 69 (.call (cf fn_runs_Run_end) [(.t 68)]), [1]), (o 70 (.eq .int (.t 67) (.t 69)), []), (o 65 (.mov (.t 70)), [])])
            (.cond (.t 65) (.reg [o 71 (.faddr 1 (.t 8)), o 72 (.load false 1 (.t 71)), o 73 (.faddr 1 (.t 12)), o 74 (.load false 1 (.t 73)), o 75 (.bin .add (.t 72) (.t 74)), o 76 (.faddr 1 (.t 8)), u (.store 1 (.t 76) (.t 75))]) (.seq (.reg [o 24 (.load true 1 (.t 3)), u (.store 1 (.t 6) (.t 24)), u (.store 1 (.t 7) (.c (.bool false)))])
              .ret)))))))))))
def pf_runs_Runs_Give : PF := ⟨85, [.cell 6 true 1, .cell 7 false 1],
  (.seq (.reg [o 3 (.box (.t 0)), o 6 (.alloc [.nils] none), o 7 (.alloc [(.bool false)] none)])
  (.seq (.reg [o 13 (.mov (.t 1)), o 14 (.mov (.t 2)), o 15 (.build [(.int .i64 0), (.int .i64 0)] [(0, 1, (.t 13)), (1, 1, (.t 14))]), o 8 (.alloc [(.int .i64 0), (.int .i64 0)] none), u (.store 2 (.t 8) (.t 15))])
  (.seq (.seq (.reg [o 16 (.load true 2 (.t 8)), o 17 (.call (cf fn_runs_Run_may) [(.t 16)]), o 18 (.un .not (.t 17))])
  (.cond (.t 18) (.seq (.reg [o 19 (.load true 1 (.t 3)), u (.store 1 (.t 6) (.t 19)), u (.store 1 (.t 7) (.c (.bool false)))])
    .ret) .skip))
  (.seq (.reg [o 9 (.alloc [.nils] none)])
  (.seq (.reg [o 10 (.alloc [(.bool false)] none), u (.store 1 (.t 10) (.c (.bool false)))])
  (.seq (.seq (.reg [o 20 (.load true 1 (.t 3)), o 21 (.call (cf fn_runs_Runs_each) [(.t 20)])])
  (.block 0 (.rfun (.t 21) [22, 23] (.reg [o 12 (.alloc [(.int .i64 0), (.int .i64 0)] none), u (.store 2 (.t 12) (.t 23))]) l1_runs_Runs_Give)))
  (.seq (.seq (.reg [o 77 (.load false 1 (.t 10)), o 78 (.un .not (.t 77))])
  (.cond (.t 78) (.reg [o 79 (.load false 1 (.t 9)), o 80 (.load true 2 (.t 8)), o 81 (.bslice [(.int .i64 0), (.int .i64 0)] 1 [(0, 2, (.t 80))]), o 82 (.append ty_runs_Run 2 16 (.t 79) (.t 81)), u (.store 1 (.t 9) (.t 82))]) .skip))
  (.seq (.reg [o 83 (.load false 1 (.t 9)), o 84 (.build [.nils] [(0, 1, (.t 83))]), u (.store 1 (.t 6) (.t 84)), u (.store 1 (.t 7) (.c (.bool true)))])
  .ret))))))))⟩

def pf_task_Task_instr : PF := ⟨22, [.cell 2 true 5, .t 3],
  (.seq (.reg [o 1 (.box (.t 0)), o 2 (.alloc [(.int .u8 0), (.int .u8 0), (.int .u8 0), (.int .u8 0), (.int .u16 0)] none), o 3 (.mov (.c (.bool false)))])
  (.seq (.seq (.reg [o 4 (.faddr 1 (.t 1)), o 5 (.load false 1 (.t 4)), o 6 (.bin .lss (.t 5) (ci 0)), o 7 (.mov (.t 6)), gf 7 (some 8) (.faddr 1 (.t 1)), gf 7 (some 9) (.load false 1 (.t 8)), gf 7 (some 10) (.faddr 0 (.t 1)), gf 7 (some 11) (.load false 1 (.t 10)), gf 7 (some 12) (.len .sl (.t 11)), gf 7 (some 13) (.bin .geq (.t 9) (.t 12)), o 14 (.pick (.t 7) (.c (.bool true)) (.t 13))])
  (.cond (.t 14) (.seq (.reg [o 15 (.build [(.int .u8 0), (.int .u8 0), (.int .u8 0), (.int .u8 0), (.int .u16 0)] []), u (.store 5 (.t 2) (.t 15)), o 3 (.mov (.c (.bool false)))])
    .ret) .skip))
  (.seq (.reg [o 16 (.faddr 0 (.t 1)), o 17 (.load false 1 (.t 16)), o 18 (.faddr 1 (.t 1)), o 19 (.load false 1 (.t 18)), o 20 (.iaddrs 5 (.t 17) (.t 19)), o 21 (.load true 5 (.t 20)), u (.store 5 (.t 2) (.t 21)), o 3 (.mov (.c (.bool true)))])
  .ret)))⟩

def pf_task_Task_reg : PF := ⟨10, [.t 4],
  (.seq (.reg [o 2 (.box (.t 0)), o 4 (.mov (.c (.int .u64 0)))])
  (.seq (.reg [o 5 (.mov (.t 1)), o 6 (.bin .rem (.t 5) (.c (.int .u8 8))), o 7 (.faddr 2 (.t 2)), o 8 (.iaddra 8 1 (.t 7) (.t 6)), o 9 (.load false 1 (.t 8)), o 4 (.mov (.t 9))])
  .ret))⟩

def l1_Pcall_Core_Step : PC :=
  (.seq (.reg [o 26 (.bin .lss (.t 25) (ci 5))])
  (.seq (.cond (.t 26) .skip (.exit 0))
  (.seq (.block 1 (.seq (.reg [o 27 (.idxa false 5 1 (.t 24) (.t 25)), o 9 (.mov (.t 27))])
    (.seq (.reg [o 28 (.mov (.t 9)), o 29 (.call (.t 28) [])])
    (.cond (.t 29) (.exit 0) .skip))))
  (.reg [o 30 (.bin .add (.t 25) (ci 1)), o 25 (.mov (.t 30))]))))
def pf_Pcall_Core_Step : PF := ⟨43, [.cell 4 true 12, .cell 5 true 3, .t 6],
  (.seq (.reg [o 3 (.box (.t 1)), o 4 (.alloc [(.int .i64 0), (.int .u8 0), (.int .u32 0), (.int .u32 0), (.int .u32 0), (.int .u32 0), (.int .u64 0), (.bool false), .nils, (.int .i64 0), (.int .i64 0), (.int .i64 0)] none), o 5 (.alloc [(.int .i64 0), (.int .u64 0), (.int .u32 0)] none), o 6 (.mov (.c (.bool false)))])
  (.seq (.reg [o 10 (.mov (.t 0)), o 11 (.load true 12 (.t 3)), o 12 (.build [.nilp, (.int .i64 0), (.int .u8 0), (.int .u32 0), (.int .u32 0), (.int .u32 0), (.int .u32 0), (.int .u64 0), (.bool false), .nils, (.int .i64 0), (.int .i64 0), (.int .i64 0), (.int .i64 0), (.int .u64 0), (.int .u32 0), (.bool false)] [(0, 1, (.t 10)), (1, 12, (.t 11))]), o 13 (.box (.t 12)), o 7 (.mov (.t 13))])
  (.seq (.seq (.reg [o 14 (.mov (.t 7)), o 15 (.mkf (.func fn_Pcall_stepper_check) [(.t 14)] []), o 16 (.mov (.t 7)), o 17 (.mkf (.func fn_Pcall_stepper_marks) [(.t 16)] []), o 18 (.mov (.t 7)), o 19 (.mkf (.func fn_Pcall_stepper_claims) [(.t 18)] []), o 20 (.mov (.t 7)), o 21 (.mkf (.func fn_Pcall_stepper_clears) [(.t 20)] []), o 22 (.mov (.t 7)), o 23 (.mkf (.func fn_Pcall_stepper_commits) [(.t 22)] []), o 24 (.build [.nilf, .nilf, .nilf, .nilf, .nilf] [(0, 1, (.t 15)), (1, 1, (.t 17)), (2, 1, (.t 19)), (3, 1, (.t 21)), (4, 1, (.t 23))]), o 25 (.mov (ci 0))])
  (.block 0 (.loop l1_Pcall_Core_Step)))
  (.seq (.dreg [(o 31 (.mov (.t 7)), []), (o 32 (.nilck (.t 31)), []), (o 33 (.faddr 1 (.t 32)), []), (o 34 (.load true 12 (.t 33)), []), (o 35 (.mov (.t 7)), []), (o 36 (.nilck (.t 35)), []), (o 37 (.faddr 13 (.t 36)), []), (o 38 (.load true 3 (.t 37)), [3]), (o 39 (.mov (.t 7)), []), (o 40 (.nilck (.t 39)), []), (o 41 (.faddr 16 (.t 40)), []), (o 42 (.load false 1 (.t 41)), [3, 7]), (u (.store 12 (.t 4) (.t 34)), [7, 11]), (u (.store 3 (.t 5) (.t 38)), [11]), (o 6 (.mov (.t 42)), [])])
  .ret))))⟩

def pf_Pmachine_Machine_ended : PF := ⟨55, [],
  (.seq (.reg [o 7 (.box (.t 2)), o 8 (.box (.t 3)), o 9 (.box (.t 4))])
  (.seq (.reg [o 11 (.mov (.t 0)), o 12 (.mov (.t 1)), o 13 (.nilck (.t 11)), o 14 (.faddr 1 (.t 13)), o 15 (.iaddra 8 24 (.t 14) (.t 12)), o 10 (.mov (.t 15))])
  (.seq (.dreg [(o 16 (.mov (.t 0)), []), (o 17 (.mov (.t 0)), []), (o 18 (.nilck (.t 17)), []), (o 19 (.faddr 194 (.t 18)), []), (o 20 (.load false 1 (.t 19)), []), (o 21 (.mov (.t 1)), []), (o 22 (.faddr 1 (.t 7)), []), (o 23 (.load true 6 (.t 22)), [4]), (o 24 (.load true 2 (.t 8)), [4, 7]), (o 25 (.load true 3 (.t 9)), [4, 7, 8]), (o 26 (.mov (.t 10)), []), (o 27 (.nilck (.t 26)), []), (o 28 (.faddr 23 (.t 27)), []), (o 29 (.load false 1 (.t 28)), [4, 7, 8, 9]), (o 30 (.mov (.t 0)), []), (o 31 (.nilck (.t 30)), []), (o 32 (.faddr 193 (.t 31)), []), (o 33 (.load false 1 (.t 32)), [4, 7, 8, 9, 13]), (o 34 (.build [(.int .i64 0), (.int .u8 0), (.int .u32 0), (.int .u32 0), (.int .u32 0), (.int .u32 0), (.int .u64 0), (.int .i64 0), (.int .i64 0), (.int .i64 0), (.int .u64 0), (.int .u32 0), (.int .i64 0), (.int .i64 0)] [(0, 1, (.t 21)), (1, 6, (.t 23)), (7, 2, (.t 24)), (9, 3, (.t 25)), (12, 1, (.t 29)), (13, 1, (.t 33))]), []), (o 35 (.bslice [(.int .i64 0), (.int .u8 0), (.int .u32 0), (.int .u32 0), (.int .u32 0), (.int .u32 0), (.int .u64 0), (.int .i64 0), (.int .i64 0), (.int .i64 0), (.int .u64 0), (.int .u32 0), (.int .i64 0), (.int .i64 0)] 1 [(0, 14, (.t 34))]), []), (o 36 (.append ty_machine_Event 14 96 (.t 20) (.t 35)), []), (o 37 (.nilck (.t 16)), []), (o 38 (.faddr 194 (.t 37)), []), (u (.store 1 (.t 38) (.t 36)), [])])
  (.seq (.dreg [(o 39 (.mov (.t 10)), []), (o 40 (.mov (.t 10)), []), (o 41 (.nilck (.t 40)), []), (o 42 (.faddr 0 (.t 41)), []), (o 43 (.load true 10 (.t 42)), []), (o 44 (.load true 3 (.t 9)), [4]), (o 45 (.call (cf fn_task_Task_Takes) [(.t 43), (.t 44)]), []), (o 46 (.nilck (.t 39)), []), (o 47 (.faddr 0 (.t 46)), []), (u (.store 10 (.t 47) (.t 45)), [])])
  (.reg [o 48 (.mov (.t 10)), o 49 (.mov (.t 10)), o 50 (.build [(.int .i64 0), (.int .u8 0), (.int .u32 0), (.int .u32 0), (.int .u32 0), (.int .u32 0), (.int .u64 0), (.bool false), .nils, (.int .i64 0), (.int .i64 0), (.int .i64 0)] []), o 51 (.nilck (.t 48)), o 52 (.faddr 22 (.t 51)), u (.store 1 (.t 52) (.c (.bool false))), o 53 (.nilck (.t 49)), o 54 (.faddr 10 (.t 53)), u (.store 12 (.t 54) (.t 50))])))))⟩

def pf_machine_handed : PF := ⟨20, [.cell 6 true 2],
  (.seq (.reg [o 3 (.box (.t 0)), o 6 (.alloc [(.int .i64 0), (.int .i64 0)] none)])
  (.seq (.seq (.reg [o 7 (.mov (.t 2)), o 8 (.mov (.t 1)), o 9 (.bin .sub (.t 7) (.t 8)), o 10 (.faddr 1 (.t 3)), o 11 (.load false 1 (.t 10)), o 12 (.bin .geq (.t 9) (.t 11)), o 13 (.mov (.t 12)), gt 13 (some 14) (.faddr 1 (.t 3)), gt 13 (some 15) (.load false 1 (.t 14)), gt 13 (some 16) (.bin .gtr (.t 15) (ci 0)), o 17 (.pick (.t 13) (.t 16) (.c (.bool false)))])
  (.cond (.t 17) (.seq (.reg [o 18 (.build [(.int .i64 0), (.int .i64 0)] []), u (.store 2 (.t 6) (.t 18))])
    .ret) .skip))
  (.seq (.reg [o 19 (.load true 2 (.t 3)), u (.store 2 (.t 6) (.t 19))])
  .ret)))⟩

def pf_task_Task_Step_1 : PF := ⟨7, [],
  (.reg [o 2 (.load false 1 (.t 1)), o 3 (.faddr 4 (.t 0)), o 4 (.load false 1 (.t 3)), o 5 (.conv .u64 (.t 4)), o 6 (.nilck (.t 2)), u (.store 1 (.t 6) (.t 5))])⟩

def pf_task_Task_Step_2 : PF := ⟨14, [],
  (.dreg [(o 3 (.load false 1 (.t 2)), []), (o 4 (.load true 10 (.t 0)), [0]), (o 5 (.faddr 2 (.t 1)), []), (o 6 (.load false 1 (.t 5)), [0, 1]), (o 7 (.call (cf fn_task_Task_reg) [(.t 4), (.t 6)]), [0]), (o 8 (.load true 10 (.t 0)), [0, 1, 3, 4]), (o 9 (.faddr 3 (.t 1)), []), (o 10 (.load false 1 (.t 9)), [0, 1, 3, 4, 5]), (o 11 (.call (cf fn_task_Task_reg) [(.t 8), (.t 10)]), [0]), (o 12 (.bin .add (.t 7) (.t 11)), []), (o 13 (.nilck (.t 3)), []), (u (.store 1 (.t 13) (.t 12)), [])])⟩

def pf_task_Task_Step_3 : PF := ⟨14, [],
  (.dreg [(o 3 (.load false 1 (.t 2)), []), (o 4 (.load true 10 (.t 0)), [0]), (o 5 (.faddr 2 (.t 1)), []), (o 6 (.load false 1 (.t 5)), [0, 1]), (o 7 (.call (cf fn_task_Task_reg) [(.t 4), (.t 6)]), [0]), (o 8 (.load true 10 (.t 0)), [0, 1, 3, 4]), (o 9 (.faddr 3 (.t 1)), []), (o 10 (.load false 1 (.t 9)), [0, 1, 3, 4, 5]), (o 11 (.call (cf fn_task_Task_reg) [(.t 8), (.t 10)]), [0]), (o 12 (.bin .sub (.t 7) (.t 11)), []), (o 13 (.nilck (.t 3)), []), (u (.store 1 (.t 13) (.t 12)), [])])⟩

def pf_task_Task_Step_4 : PF := ⟨12, [],
  (.dreg [(o 3 (.load false 1 (.t 2)), []), (o 4 (.load true 10 (.t 0)), [0]), (o 5 (.faddr 2 (.t 1)), []), (o 6 (.load false 1 (.t 5)), [0, 1]), (o 7 (.call (cf fn_task_Task_reg) [(.t 4), (.t 6)]), [0]), (o 8 (.faddr 4 (.t 1)), []), (o 9 (.load false 1 (.t 8)), [0, 1, 3, 4]), (o 10 (.shf .shl (.t 7) (.t 9)), []), (o 11 (.nilck (.t 3)), []), (u (.store 1 (.t 11) (.t 10)), [])])⟩

def pf_task_Task_Step_5 : PF := ⟨5, [],
  (.reg [o 2 (.faddr 4 (.t 0)), o 3 (.load false 1 (.t 2)), o 4 (.conv .i64 (.t 3)), u (.store 1 (.t 1) (.t 4))])⟩

def pf_task_Task_Step_6 : PF := ⟨10, [],
  (.seq (.reg [o 3 (.load false 1 (.t 0)), o 4 (.nilck (.t 3)), o 5 (.load false 1 (.t 4)), o 6 (.ne .int (.t 5) (.c (.int .u64 0)))])
  (.cond (.t 6) (.reg [o 7 (.faddr 4 (.t 1)), o 8 (.load false 1 (.t 7)), o 9 (.conv .i64 (.t 8)), u (.store 1 (.t 2) (.t 9))]) .skip))⟩

def l1_Pcall_Core_queue : PC :=
  (.seq (.reg [o 8 (.bin .lss (.t 7) (.t 6))])
  (.seq (.cond (.t 8) .skip (.exit 0))
  (.seq (.block 1 (.seq (.reg [o 9 (.mov (.t 7)), o 4 (.mov (.t 9))])
    (.dreg [(o 10 (.mov (.t 0)), []), (o 11 (.mov (.t 0)), []), (o 12 (.nilck (.t 11)), []), (o 13 (.faddr 1273 (.t 12)), []), (o 14 (.load false 1 (.t 13)), []), (o 15 (.faddr 0 (.t 3)), []), (o 16 (.load false 1 (.t 15)), [4]), (o 17 (.mov (.t 4)), []), (o 18 (.bin .add (.t 16) (.t 17)), []), (o 19 (.bslice [(.int .i64 0)] 1 [(0, 1, (.t 18))]), []), (o 20 (.append ty_int 1 8 (.t 14) (.t 19)), []), (o 21 (.nilck (.t 10)), []), (o 22 (.faddr 1273 (.t 21)), []), (u (.store 1 (.t 22) (.t 20)), [])])))
  (.reg [o 23 (.bin .add (.t 7) (ci 1)), o 7 (.mov (.t 23))]))))
def pf_Pcall_Core_queue : PF := ⟨24, [],
  (.seq (.reg [o 3 (.box (.t 1))])
  (.seq (.reg [o 5 (.faddr 1 (.t 3)), o 6 (.load false 1 (.t 5)), o 7 (.mov (ci 0))])
  (.block 0 (.loop l1_Pcall_Core_queue))))⟩

def l1_mark_Marks_Gone : PC :=
  (.seq (.reg [o 7 (.bin .lss (.t 6) (ci 32))])
  (.seq (.cond (.t 7) .skip (.exit 0))
  (.seq (.block 1 (.seq (.reg [o 8 (.mov (.t 6)), o 5 (.mov (.t 8))])
    (.seq (.reg [o 9 (.load true 320 (.t 2)), o 10 (.mov (.t 5)), o 11 (.mov (.t 1)), o 12 (.call (cf fn_mark_Marks_Free) [(.t 9), (.t 10), (.t 11)]), u (.store 320 (.t 2) (.t 12))])
    (.seq (.reg [o 13 (.mov (.t 5)), o 14 (.mov (.t 1)), o 15 (.call (cf fn_mark_may) [(.t 13), (.t 14)])])
    (.cond (.t 15) (.reg [o 16 (.mov (.t 5)), o 17 (.mov (.t 5)), o 18 (.faddr 0 (.t 2)), o 19 (.iaddra 32 10 (.t 18) (.t 17)), o 20 (.load true 10 (.t 19)), o 21 (.mov (.t 1)), o 22 (.call (cf fn_mark_line_without) [(.t 20), (.t 21)]), o 23 (.faddr 0 (.t 2)), o 24 (.iaddra 32 10 (.t 23) (.t 16)), u (.store 10 (.t 24) (.t 22))]) .skip)))))
  (.reg [o 25 (.bin .add (.t 6) (ci 1)), o 6 (.mov (.t 25))]))))
def pf_mark_Marks_Gone : PF := ⟨27, [.cell 4 true 320],
  (.seq (.reg [o 2 (.box (.t 0)), o 4 (.alloc z320_96f1 none)])
  (.seq (.seq (.reg [o 6 (.mov (ci 0))])
  (.block 0 (.loop l1_mark_Marks_Gone)))
  (.seq (.reg [o 26 (.load true 320 (.t 2)), u (.store 320 (.t 4) (.t 26))])
  .ret)))⟩

def pf_plan_Check : PF := ⟨26, [.t 6],
  (.seq (.reg [o 3 (.box (.t 0)), o 5 (.box (.t 2)), o 6 (.mov (ci 0))])
  (.seq (.seq (.reg [o 10 (.load true 952 (.t 3)), o 11 (.mov (.t 1)), o 12 (.load true 6 (.t 5)), o 13 (.call (cf fn_model_State_Needs) [(.t 10), (.t 11), (.t 12)]), o 14 (.bin .gtr (.t 13) (ci 0))])
  (.cond (.t 14) (.seq (.reg [o 6 (.mov (ci 0))])
    .ret) .skip))
  (.seq (.reg [o 16 (.load true 952 (.t 3)), o 17 (.mov (.t 1)), o 18 (.load true 6 (.t 5)), o 19 (.build [(.int .i64 0), (.int .i64 0)] []), o 20 (.call (cf fn_model_State_Do) [(.t 16), (.t 17), (.t 18), (.t 19)]), o 15 (.mov (.t 20)), o 21 (.ext (.t 15) 0), o 22 (.ext (.t 15) 1), o 23 (.ext (.t 15) 2), o 7 (.alloc z952_2fb3 none), o 8 (.alloc [(.int .i64 0), (.int .u64 0), (.int .u32 0)] none), u (.store 952 (.t 7) (.t 21)), u (.store 3 (.t 8) (.t 22)), o 9 (.mov (.t 23))])
  (.seq (.reg [o 24 (.faddr 0 (.t 8)), o 25 (.load false 1 (.t 24)), o 6 (.mov (.t 25))])
  .ret))))⟩

def pr_Pmodel_caller_calls_1 : PRec := ⟨4, ⟨17, [],
  (.seq (.reg [o 1 (.mov (.t 4))])
  (.seq (.reg [o 5 (.mov (.t 1)), o 6 (.ne .ifc (.t 5) (.c .nili))])
  (.cond (.t 6) (.seq (.reg [o 8 (.mov (.t 1)), o 9 (.ta (.int .i64 0) (.t 8) ty_api_Errno true), o 7 (.mov (.t 9)), o 10 (.ext (.t 7) 0), o 11 (.ext (.t 7) 1), o 2 (.mov (.t 10)), o 3 (.mov (.t 11))])
    (.seq (.seq (.reg [o 12 (.mov (.t 3)), o 13 (.un .not (.t 12))])
    (.cond (.t 13) (.reg [o 14 (.mov (.t 1)), u (.panic (.t 14))]) .skip))
    (.reg [o 15 (.mov (.t 2)), o 16 (.build [(.int .i64 0), (.int .u64 0), (.int .u32 0)] [(0, 1, (.t 15))]), u (.store 3 (.t 0) (.t 16))]))) .skip)))⟩⟩

def pf_model_ask : PF := ⟨8, [],
  (.seq (.reg [o 4 (.mov (.t 0)), o 5 (.un .not (.t 4))])
  (.cond (.t 5) (.reg [o 6 (.mov (.t 1)), o 7 (.mki ty_api_Errno (.t 6)), u (.panic (.t 7))]) .skip))⟩

def l1_forest_Root : PC :=
  (.block 1 (.reg [o 16 (.mov (.t 5)), u (.store 1 (.t 3) (.t 16))]))
def pf_forest_Root : PF := ⟨18, [.t 4],
  (.seq (.reg [o 2 (.box (.t 0)), o 3 (.box (.t 1)), o 4 (.mov (.c (.int .u32 0)))])
  (.seq (.seq (.reg [o 6 (.faddr 0 (.t 2)), o 7 (.faddr 0 (.t 6)), o 8 (.load true 96 (.t 7)), o 9 (.load false 1 (.t 3)), o 10 (.call (cf fn_handle_Book_Good) [(.t 8), (.t 9)]), o 11 (.un .not (.t 10))])
  (.cond (.t 11) (.seq (.reg [o 4 (.mov (.c (.int .u32 0)))])
    .ret) .skip))
  (.seq (.seq (.reg [o 12 (.load true 480 (.t 2)), o 13 (.load false 1 (.t 3)), o 14 (.call (cf fn_forest_above) [(.t 12), (.t 13)])])
  (.block 0 (.rfun (.t 14) [15] (.reg [o 5 (.mov (.t 15))]) l1_forest_Root)))
  (.seq (.reg [o 17 (.load false 1 (.t 3)), o 4 (.mov (.t 17))])
  .ret))))⟩

def l1_token_Tokens_those : PC :=
  (.seq (.reg [o 15 (.bin .lss (.t 14) (.t 13))])
  (.seq (.cond (.t 15) .skip (.exit 0))
  (.seq (.block 1 (.seq (.reg [o 16 (.iaddrs 1 (.t 12) (.t 14)), o 17 (.load false 1 (.t 16)), o 7 (.mov (.t 17))])
    (.seq (.reg [o 19 (.load true 176 (.t 2)), o 20 (.mov (.t 7)), o 21 (.call (cf fn_token_Tokens_Get) [(.t 19), (.t 20)]), o 18 (.mov (.t 21)), o 22 (.ext (.t 18) 0), o 23 (.ext (.t 18) 1), o 8 (.alloc [(.int .u32 0), (.int .u8 0), (.int .u8 0), (.bool false), (.int .u32 0)] none), u (.store 5 (.t 8) (.t 22)), o 9 (.mov (.t 23))])
    (.seq (.reg [o 24 (.mov (.t 1)), o 25 (.load true 5 (.t 8)), o 26 (.call (.t 24) [(.t 25)])])
    (.cond (.t 26) (.reg [o 27 (.mov (.t 5)), o 28 (.mov (.t 7)), o 29 (.bslice [(.int .u32 0)] 1 [(0, 1, (.t 28))]), o 30 (.append ty_handle_Handle 1 4 (.t 27) (.t 29)), o 5 (.mov (.t 30))]) .skip)))))
  (.reg [o 31 (.bin .add (.t 14) (ci 1)), o 14 (.mov (.t 31))]))))
def pf_token_Tokens_those : PF := ⟨33, [.t 4],
  (.seq (.reg [o 2 (.box (.t 0)), o 4 (.mov (.c .nils))])
  (.seq (.reg [o 5 (.mov (.c .nils))])
  (.seq (.seq (.reg [o 10 (.faddr 0 (.t 2)), o 11 (.load true 96 (.t 10)), o 12 (.call (cf fn_handle_Book_Issued) [(.t 11)]), o 13 (.len .sl (.t 12)), o 14 (.mov (ci 0))])
  (.block 0 (.loop l1_token_Tokens_those)))
  (.seq (.reg [o 32 (.mov (.t 5)), o 4 (.mov (.t 32))])
  .ret))))⟩

def pf_token_Tokens_Of_1 : PF := ⟨9, [.t 3],
  (.seq (.reg [o 2 (.box (.t 0)), o 3 (.mov (.c (.bool false)))])
  (.seq (.reg [o 4 (.faddr 2 (.t 2)), o 5 (.load false 1 (.t 4)), o 6 (.conv .i64 (.t 5)), o 7 (.load false 1 (.t 1)), o 8 (.eq .int (.t 6) (.t 7)), o 3 (.mov (.t 8))])
  .ret))⟩

def l1_mail_Box_each_1 : PC :=
  (.seq (.reg [o 7 (.bin .lss (.t 6) (.t 5))])
  (.seq (.cond (.t 7) .skip (.exit 0))
  (.seq (.block 1 (.seq (.reg [o 8 (.mov (.t 6)), o 3 (.mov (.t 8))])
    (.seq (.reg [o 9 (.mov (.t 0)), o 10 (.load true 19 (.t 1)), o 11 (.mov (.t 3)), o 12 (.call (cf fn_mail_Box_at) [(.t 10), (.t 11)]), o 13 (.faddr 0 (.t 1)), o 14 (.iaddra 4 4 (.t 13) (.t 12)), o 15 (.load true 4 (.t 14)), o 16 (.call (.t 9) [(.t 15)]), o 17 (.un .not (.t 16))])
    (.cond (.t 17) .ret .skip))))
  (.reg [o 18 (.bin .add (.t 6) (ci 1)), o 6 (.mov (.t 18))]))))
def pf_mail_Box_each_1 : PF := ⟨19, [],
  (.seq (.reg [o 4 (.faddr 17 (.t 1)), o 5 (.load false 1 (.t 4)), o 6 (.mov (ci 0))])
  (.block 0 (.loop l1_mail_Box_each_1)))⟩

def pf_mail_Box_at : PF := ⟨10, [.t 4],
  (.seq (.reg [o 2 (.box (.t 0)), o 4 (.mov (ci 0))])
  (.seq (.reg [o 5 (.faddr 16 (.t 2)), o 6 (.load false 1 (.t 5)), o 7 (.mov (.t 1)), o 8 (.bin .add (.t 6) (.t 7)), o 9 (.bin .rem (.t 8) (ci 4)), o 4 (.mov (.t 9))])
  .ret))⟩

def pf_handle_Book_At : PF := ⟨27, [.t 4, .t 5],
  (.seq (.reg [o 2 (.box (.t 0)), o 4 (.mov (.c (.int .u32 0))), o 5 (.mov (.c (.bool false)))])
  (.seq (.seq (.reg [o 6 (.mov (.t 1)), o 7 (.bin .lss (.t 6) (ci 0)), o 8 (.mov (.t 7)), gf 8 (some 9) (.mov (.t 1)), gf 8 (some 10) (.bin .geq (.t 9) (ci 32)), o 11 (.pick (.t 8) (.c (.bool true)) (.t 10)), o 12 (.mov (.t 11)), gf 12 (some 13) (.mov (.t 1)), gf 12 (some 14) (.faddr 0 (.t 2)), gf 12 (some 15) (.iaddra 32 3 (.t 14) (.t 13)), gf 12 (some 16) (.faddr 1 (.t 15)), gf 12 (some 17) (.load false 1 (.t 16)), gf 12 (some 18) (.un .not (.t 17)), o 19 (.pick (.t 12) (.c (.bool true)) (.t 18))])
  (.cond (.t 19) (.seq (.reg [o 4 (.mov (.c (.int .u32 0))), o 5 (.mov (.c (.bool false)))])
    .ret) .skip))
  (.seq (.reg [o 20 (.mov (.t 1)), o 21 (.mov (.t 1)), o 22 (.faddr 0 (.t 2)), o 23 (.iaddra 32 3 (.t 22) (.t 21)), o 24 (.faddr 0 (.t 23)), o 25 (.load false 1 (.t 24)), o 26 (.call (cf fn_handle_of) [(.t 20), (.t 25)]), o 4 (.mov (.t 26)), o 5 (.mov (.c (.bool true)))])
  .ret)))⟩

def l1_extent_Extent_chunks_1 : PC :=
  (.seq (.reg [o 10 (.bin .lss (.t 9) (.t 8))])
  (.seq (.cond (.t 10) .skip (.exit 0))
  (.seq (.block 1 (.seq (.reg [o 11 (.iaddrs 2 (.t 7) (.t 9)), o 12 (.load true 2 (.t 11)), o 5 (.alloc [(.int .i64 0), (.int .i64 0)] none), u (.store 2 (.t 5) (.t 12))])
    (.seq (.seq (.reg [o 13 (.mov (.t 0)), o 14 (.mov (.t 3)), o 15 (.load true 2 (.t 5)), o 16 (.call (.t 13) [(.t 14), (.t 15)]), o 17 (.un .not (.t 16))])
    (.cond (.t 17) .ret .skip))
    (.reg [o 18 (.mov (.t 3)), o 19 (.faddr 1 (.t 5)), o 20 (.load false 1 (.t 19)), o 21 (.bin .mul (.t 20) (ci 32)), o 22 (.bin .add (.t 18) (.t 21)), o 3 (.mov (.t 22))]))))
  (.reg [o 23 (.bin .add (.t 9) (ci 1)), o 9 (.mov (.t 23))]))))
def pf_extent_Extent_chunks_1 : PF := ⟨24, [],
  (.seq (.reg [o 3 (.mov (ci 0))])
  (.seq (.reg [o 6 (.faddr 0 (.t 1)), o 7 (.load false 1 (.t 6)), o 8 (.len .sl (.t 7)), o 9 (.mov (ci 0))])
  (.block 0 (.loop l1_extent_Extent_chunks_1))))⟩

def pf_Ppool_Pool_byte_1 : PF := ⟨11, [],
  (.dreg [(o 4 (.load false 1 (.t 1)), []), (o 5 (.mov (.t 0)), []), (o 6 (.load false 1 (.t 2)), [0]), (o 7 (.bin .rem (.t 6) (ci 32)), []), (o 8 (.nilck (.t 5)), []), (o 9 (.iaddra 32 1 (.t 8) (.t 7)), []), (o 10 (.call (.t 4) [(.t 9)]), [])])⟩

def pf_slices_ContainsFunc_code_Instr_code_Instr : PF := ⟨9, [.t 4],
  (.seq (.reg [o 4 (.mov (.c (.bool false)))])
  (.seq (.reg [o 5 (.mov (.t 0)), o 6 (.mov (.t 1)), o 7 (.call (cf fn_slices_IndexFunc_code_Instr_code_Instr) [(.t 5), (.t 6)]), o 8 (.bin .geq (.t 7) (ci 0)), o 4 (.mov (.t 8))])
  .ret))⟩

def pf_code_May_1 : PF := ⟨9, [.t 3],
  (.seq (.reg [o 2 (.box (.t 0)), o 3 (.mov (.c (.bool false)))])
  (.seq (.reg [o 4 (.load true 5 (.t 2)), o 5 (.load false 1 (.t 1)), o 6 (.len .sl (.t 5)), o 7 (.call (cf fn_code_Instr_may) [(.t 4), (.t 6)]), o 8 (.un .not (.t 7)), o 3 (.mov (.t 8))])
  .ret))⟩

def pf_code_Instr_may : PF := ⟨50, [.t 4],
  (.seq (.reg [o 2 (.box (.t 0)), o 4 (.mov (.c (.bool false)))])
  (.seq (.reg [o 7 (.faddr 0 (.t 2)), o 8 (.load false 1 (.t 7)), o 9 (.bin .gtr (.t 8) (.c (.int .u8 16))), o 10 (.mov (.t 9)), gt 10 (some 11) (.faddr 0 (.t 2)), gt 10 (some 12) (.load false 1 (.t 11)), gt 10 (some 13) (.bin .leq (.t 12) (.c (.int .u8 38))), o 14 (.pick (.t 10) (.t 13) (.c (.bool false))), o 5 (.mov (.t 14))])
  (.seq (.reg [o 15 (.faddr 0 (.t 2)), o 16 (.load false 1 (.t 15)), o 17 (.eq .int (.t 16) (.c (.int .u8 5))), o 18 (.mov (.t 17)), gf 18 (some 19) (.faddr 0 (.t 2)), gf 18 (some 20) (.load false 1 (.t 19)), gf 18 (some 21) (.eq .int (.t 20) (.c (.int .u8 6))), o 22 (.pick (.t 18) (.c (.bool true)) (.t 21)), o 6 (.mov (.t 22))])
  (.seq (.reg [o 23 (.faddr 0 (.t 2)), o 24 (.load false 1 (.t 23)), o 25 (.bin .leq (.t 24) (.c (.int .u8 6))), o 26 (.mov (.t 25)), gf 26 (some 27) (.mov (.t 5)), o 28 (.pick (.t 26) (.c (.bool true)) (.t 27)), o 29 (.mov (.t 28)), gt 29 (some 30) (.faddr 1 (.t 2)), gt 29 (some 31) (.load false 1 (.t 30)), gt 29 (some 32) (.faddr 2 (.t 2)), gt 29 (some 33) (.load false 1 (.t 32)), gt 29 (some 34) (.faddr 3 (.t 2)), gt 29 (some 35) (.load false 1 (.t 34)), gt 29 (some 36) (.max [(.t 31), (.t 33), (.t 35)]), gt 29 (some 37) (.bin .lss (.t 36) (.c (.int .u8 8))), o 38 (.pick (.t 29) (.t 37) (.c (.bool false))), o 39 (.mov (.t 38)), gt 39 (some 40) (.mov (.t 6)), gt 39 (some 41) (.un .not (.t 40)), gt 39 (some 42) (.mov (.t 41)), gf 42 (some 43) (.faddr 4 (.t 2)), gf 42 (some 44) (.load false 1 (.t 43)), gf 42 (some 45) (.conv .i64 (.t 44)), gf 42 (some 46) (.mov (.t 1)), gf 42 (some 47) (.bin .lss (.t 45) (.t 46)), gt 39 (some 48) (.pick (.t 42) (.c (.bool true)) (.t 47)), o 49 (.pick (.t 39) (.t 48) (.c (.bool false))), o 4 (.mov (.t 49))])
  .ret))))⟩

def pf_runs_Runs_each : PF := ⟨6, [.t 2],
  (.seq (.reg [o 1 (.box (.t 0)), o 2 (.mov (.c .nilf))])
  (.seq (.reg [o 3 (.faddr 0 (.t 1)), o 4 (.load false 1 (.t 3)), o 5 (.call (cf fn_slices_All_runs_Run_runs_Run) [(.t 4)]), o 2 (.mov (.t 5))])
  .ret))⟩

def pf_Pcall_stepper_check : PF := ⟨72, [.t 2],
  (.seq (.reg [o 2 (.mov (.c (.bool false)))])
  (.seq (.seq (.reg [o 4 (.mov (.t 0)), o 5 (.nilck (.t 4)), o 6 (.faddr 1 (.t 5)), o 7 (.faddr 7 (.t 6)), o 8 (.load false 1 (.t 7))])
  (.cond (.t 8) (.seq (.reg [o 2 (.mov (.c (.bool false)))])
    .ret) .skip))
  (.seq (.seq (.dreg [(o 9 (.mov (.t 0)), []), (o 10 (.nilck (.t 9)), []), (o 11 (.faddr 0 (.t 10)), []), (o 12 (.load false 1 (.t 11)), []), (o 13 (.nilck (.t 12)), []), (o 14 (.faddr 0 (.t 13)), []), (o 15 (.load true 952 (.t 14)), []), (o 16 (.mov (.t 0)), []), (o 17 (.nilck (.t 16)), []), (o 18 (.faddr 1 (.t 17)), []), (o 19 (.faddr 0 (.t 18)), []), (o 20 (.load false 1 (.t 19)), [3, 6]), (o 21 (.mov (.t 0)), []), (o 22 (.nilck (.t 21)), []), (o 23 (.faddr 1 (.t 22)), []), (o 24 (.faddr 1 (.t 23)), []), (o 25 (.load true 6 (.t 24)), [3, 6, 11]), (o 26 (.call (cf fn_plan_Waits) [(.t 15), (.t 20), (.t 25)]), [])])
  (.cond (.t 26) (.seq (.reg [o 2 (.mov (.c (.bool true)))])
    .ret) .skip))
  (.seq (.seq (.dreg [(o 27 (.mov (.t 0)), []), (o 28 (.nilck (.t 27)), []), (o 29 (.faddr 0 (.t 28)), []), (o 30 (.load false 1 (.t 29)), []), (o 31 (.nilck (.t 30)), []), (o 32 (.faddr 0 (.t 31)), []), (o 33 (.load true 952 (.t 32)), []), (o 34 (.mov (.t 0)), []), (o 35 (.nilck (.t 34)), []), (o 36 (.faddr 1 (.t 35)), []), (o 37 (.faddr 0 (.t 36)), []), (o 38 (.load false 1 (.t 37)), [3, 6]), (o 39 (.mov (.t 0)), []), (o 40 (.nilck (.t 39)), []), (o 41 (.faddr 1 (.t 40)), []), (o 42 (.faddr 1 (.t 41)), []), (o 43 (.load true 6 (.t 42)), [3, 6, 11]), (o 44 (.call (cf fn_plan_Check) [(.t 33), (.t 38), (.t 43)]), []), (o 3 (.mov (.t 44)), [])])
  (.seq (.reg [o 45 (.mov (.t 3)), o 46 (.ne .int (.t 45) (ci 0))])
  (.cond (.t 46) (.seq (.reg [o 47 (.mov (.t 0)), o 48 (.mov (.t 3)), o 49 (.build [(.int .i64 0), (.int .u64 0), (.int .u32 0)] [(0, 1, (.t 48))]), o 50 (.call (cf fn_Pcall_stepper_ends) [(.t 47), (.t 49)])])
    (.seq (.reg [o 2 (.mov (.c (.bool true)))])
    .ret)) .skip)))
  (.seq (.dreg [(o 51 (.mov (.t 0)), []), (o 52 (.mov (.t 0)), []), (o 53 (.mov (.t 0)), []), (o 54 (.nilck (.t 53)), []), (o 55 (.faddr 0 (.t 54)), []), (o 56 (.load false 1 (.t 55)), []), (o 57 (.nilck (.t 56)), []), (o 58 (.faddr 0 (.t 57)), []), (o 59 (.load true 952 (.t 58)), []), (o 60 (.mov (.t 0)), []), (o 61 (.nilck (.t 60)), []), (o 62 (.faddr 1 (.t 61)), []), (o 63 (.faddr 1 (.t 62)), []), (o 64 (.load true 6 (.t 63)), [5, 8]), (o 65 (.call (cf fn_plan_Regions) [(.t 59), (.t 64)]), []), (o 66 (.nilck (.t 51)), []), (o 67 (.faddr 1 (.t 66)), []), (o 68 (.faddr 7 (.t 67)), []), (u (.store 1 (.t 68) (.c (.bool true))), []), (o 69 (.nilck (.t 52)), []), (o 70 (.faddr 1 (.t 69)), []), (o 71 (.faddr 8 (.t 70)), []), (u (.store 1 (.t 71) (.t 65)), [])])
  (.seq (.reg [o 2 (.mov (.c (.bool true)))])
  .ret))))))⟩

def pf_Pcall_stepper_marks : PF := ⟨60, [.t 2],
  (.seq (.reg [o 2 (.mov (.c (.bool false)))])
  (.seq (.seq (.reg [o 7 (.mov (.t 0)), o 8 (.nilck (.t 7)), o 9 (.faddr 1 (.t 8)), o 10 (.faddr 8 (.t 9)), o 11 (.load false 1 (.t 10)), o 12 (.len .sl (.t 11)), o 13 (.eq .int (.t 12) (ci 0))])
  (.cond (.t 13) (.seq (.reg [o 2 (.mov (.c (.bool false)))])
    .ret) .skip))
  (.seq (.reg [o 15 (.mov (.t 0)), o 16 (.nilck (.t 15)), o 17 (.faddr 1 (.t 16)), o 18 (.faddr 8 (.t 17)), o 19 (.load false 1 (.t 18)), o 20 (.iaddrs 1 (.t 19) (ci 0)), o 21 (.load false 1 (.t 20)), o 22 (.call (cf fn_handle_Handle_Slot) [(.t 21)]), o 14 (.mov (.t 22)), o 23 (.ext (.t 14) 0), o 24 (.ext (.t 14) 1), o 3 (.mov (.t 23)), o 4 (.mov (.t 24))])
  (.seq (.dreg [(o 26 (.mov (.t 0)), []), (o 27 (.nilck (.t 26)), []), (o 28 (.faddr 0 (.t 27)), []), (o 29 (.load false 1 (.t 28)), []), (o 30 (.nilck (.t 29)), []), (o 31 (.faddr 953 (.t 30)), []), (o 32 (.load true 320 (.t 31)), []), (o 33 (.mov (.t 3)), []), (o 34 (.mov (.t 0)), []), (o 35 (.nilck (.t 34)), []), (o 36 (.faddr 1 (.t 35)), []), (o 37 (.faddr 0 (.t 36)), []), (o 38 (.load false 1 (.t 37)), [3, 6]), (o 39 (.call (cf fn_mark_Marks_Try) [(.t 32), (.t 33), (.t 38)]), []), (o 25 (.mov (.t 39)), []), (o 40 (.ext (.t 25) 0), []), (o 41 (.ext (.t 25) 1), []), (o 5 (.alloc z320_96f1 none), [3, 6, 12, 13]), (u (.store 320 (.t 5) (.t 40)), []), (o 6 (.mov (.t 41)), [])])
  (.seq (.dreg [(o 42 (.mov (.t 0)), []), (o 43 (.nilck (.t 42)), []), (o 44 (.faddr 0 (.t 43)), []), (o 45 (.load false 1 (.t 44)), []), (o 46 (.load true 320 (.t 5)), [3]), (o 47 (.nilck (.t 45)), []), (o 48 (.faddr 953 (.t 47)), []), (u (.store 320 (.t 48) (.t 46)), [])])
  (.seq (.seq (.reg [o 49 (.mov (.t 6))])
  (.cond (.t 49) (.reg [o 50 (.mov (.t 0)), o 51 (.mov (.t 0)), o 52 (.nilck (.t 51)), o 53 (.faddr 1 (.t 52)), o 54 (.faddr 8 (.t 53)), o 55 (.load false 1 (.t 54)), o 56 (.slsl 1 (.t 55) (some (ci 1)) none none), o 57 (.nilck (.t 50)), o 58 (.faddr 1 (.t 57)), o 59 (.faddr 8 (.t 58)), u (.store 1 (.t 59) (.t 56))]) .skip))
  (.seq (.reg [o 2 (.mov (.c (.bool true)))])
  .ret)))))))⟩

def pf_Pcall_stepper_claims : PF := ⟨60, [.t 2],
  (.seq (.reg [o 2 (.mov (.c (.bool false)))])
  (.seq (.dreg [(o 6 (.mov (.t 0)), []), (o 7 (.nilck (.t 6)), []), (o 8 (.faddr 0 (.t 7)), []), (o 9 (.load false 1 (.t 8)), []), (o 10 (.nilck (.t 9)), []), (o 11 (.faddr 0 (.t 10)), []), (o 12 (.load true 952 (.t 11)), []), (o 13 (.mov (.t 0)), []), (o 14 (.nilck (.t 13)), []), (o 15 (.faddr 1 (.t 14)), []), (o 16 (.faddr 0 (.t 15)), []), (o 17 (.load false 1 (.t 16)), [3, 6]), (o 18 (.mov (.t 0)), []), (o 19 (.nilck (.t 18)), []), (o 20 (.faddr 1 (.t 19)), []), (o 21 (.faddr 1 (.t 20)), []), (o 22 (.load true 6 (.t 21)), [3, 6, 11]), (o 23 (.call (cf fn_model_State_Needs) [(.t 12), (.t 17), (.t 22)]), []), (o 3 (.mov (.t 23)), [])])
  (.seq (.seq (.reg [o 24 (.mov (.t 3)), o 25 (.eq .int (.t 24) (ci 0)), o 26 (.mov (.t 25)), gf 26 (some 27) (.mov (.t 0)), gf 26 (some 28) (.nilck (.t 27)), gf 26 (some 29) (.faddr 1 (.t 28)), gf 26 (some 30) (.faddr 9 (.t 29)), gf 26 (some 31) (.faddr 1 (.t 30)), gf 26 (some 32) (.load false 1 (.t 31)), gf 26 (some 33) (.bin .gtr (.t 32) (ci 0)), o 34 (.pick (.t 26) (.c (.bool true)) (.t 33))])
  (.cond (.t 34) (.seq (.reg [o 2 (.mov (.c (.bool false)))])
    .ret) .skip))
  (.seq (.reg [o 36 (.mov (.t 0)), o 37 (.nilck (.t 36)), o 38 (.faddr 0 (.t 37)), o 39 (.load false 1 (.t 38)), o 40 (.nilck (.t 39)), o 41 (.faddr 952 (.t 40)), o 42 (.load false 1 (.t 41)), o 43 (.mov (.t 3)), o 44 (.call (cf fn_Ppool_Pool_Claim) [(.t 42), (.t 43)]), o 35 (.mov (.t 44)), o 45 (.ext (.t 35) 0), o 46 (.ext (.t 35) 1), o 4 (.mov (.t 45)), o 5 (.mov (.t 46))])
  (.seq (.seq (.reg [o 47 (.mov (.t 5)), o 48 (.ne .int (.t 47) (ci 0))])
  (.cond (.t 48) (.seq (.reg [o 49 (.mov (.t 0)), o 50 (.mov (.t 5)), o 51 (.build [(.int .i64 0), (.int .u64 0), (.int .u32 0)] [(0, 1, (.t 50))]), o 52 (.call (cf fn_Pcall_stepper_ends) [(.t 49), (.t 51)])])
    (.seq (.reg [o 2 (.mov (.c (.bool true)))])
    .ret)) .skip))
  (.seq (.reg [o 53 (.mov (.t 0)), o 54 (.mov (.t 4)), o 55 (.mov (.t 3)), o 56 (.build [(.int .i64 0), (.int .i64 0)] [(0, 1, (.t 54)), (1, 1, (.t 55))]), o 57 (.nilck (.t 53)), o 58 (.faddr 1 (.t 57)), o 59 (.faddr 9 (.t 58)), u (.store 2 (.t 59) (.t 56))])
  (.seq (.reg [o 2 (.mov (.c (.bool true)))])
  .ret)))))))⟩

def pf_Pcall_stepper_clears : PF := ⟨44, [.t 2],
  (.seq (.reg [o 2 (.mov (.c (.bool false)))])
  (.seq (.seq (.dreg [(o 3 (.mov (.t 0)), []), (o 4 (.nilck (.t 3)), []), (o 5 (.faddr 1 (.t 4)), []), (o 6 (.faddr 11 (.t 5)), []), (o 7 (.load false 1 (.t 6)), []), (o 8 (.mov (.t 0)), []), (o 9 (.nilck (.t 8)), []), (o 10 (.faddr 1 (.t 9)), []), (o 11 (.faddr 9 (.t 10)), []), (o 12 (.faddr 1 (.t 11)), []), (o 13 (.load false 1 (.t 12)), [4]), (o 14 (.bin .geq (.t 7) (.t 13)), [])])
  (.cond (.t 14) (.seq (.reg [o 2 (.mov (.c (.bool false)))])
    .ret) .skip))
  (.seq (.dreg [(o 15 (.mov (.t 0)), []), (o 16 (.nilck (.t 15)), []), (o 17 (.faddr 0 (.t 16)), []), (o 18 (.load false 1 (.t 17)), []), (o 19 (.nilck (.t 18)), []), (o 20 (.faddr 952 (.t 19)), []), (o 21 (.load false 1 (.t 20)), []), (o 22 (.mov (.t 0)), []), (o 23 (.nilck (.t 22)), []), (o 24 (.faddr 1 (.t 23)), []), (o 25 (.faddr 9 (.t 24)), []), (o 26 (.faddr 0 (.t 25)), []), (o 27 (.load false 1 (.t 26)), [3, 6]), (o 28 (.mov (.t 0)), []), (o 29 (.nilck (.t 28)), []), (o 30 (.faddr 1 (.t 29)), []), (o 31 (.faddr 11 (.t 30)), []), (o 32 (.load false 1 (.t 31)), [3, 6, 12]), (o 33 (.bin .add (.t 27) (.t 32)), []), (o 34 (.call (cf fn_Ppool_Pool_Clear) [(.t 21), (.t 33)]), [])])
  (.seq (.reg [o 35 (.mov (.t 0)), o 36 (.nilck (.t 35)), o 37 (.faddr 1 (.t 36)), o 38 (.faddr 11 (.t 37)), o 39 (.load false 1 (.t 38)), o 40 (.bin .add (.t 39) (ci 1)), o 41 (.nilck (.t 35)), o 42 (.faddr 1 (.t 41)), o 43 (.faddr 11 (.t 42)), u (.store 1 (.t 43) (.t 40))])
  (.seq (.reg [o 2 (.mov (.c (.bool true)))])
  .ret)))))⟩

def l1_Pcall_stepper_commits : PC :=
  (.seq (.reg [o 131 (.bin .lss (.t 130) (.t 129))])
  (.seq (.cond (.t 131) .skip (.exit 1))
  (.seq (.block 2 (.seq (.reg [o 132 (.iaddrs 2 (.t 128) (.t 130)), o 133 (.load true 2 (.t 132)), o 10 (.alloc [(.int .i64 0), (.int .i64 0)] none), u (.store 2 (.t 10) (.t 133))])
    (.dreg [(o 134 (.load false 1 (.t 1)), []), (o 135 (.nilck (.t 134)), []), (o 136 (.faddr 0 (.t 135)), []), (o 137 (.load false 1 (.t 136)), []), (o 138 (.load true 2 (.t 10)), [0, 3]), (o 139 (.call (cf fn_Pcall_Core_queue) [(.t 137), (.t 138)]), [])])))
  (.reg [o 140 (.bin .add (.t 130) (ci 1)), o 130 (.mov (.t 140))]))))
def pf_Pcall_stepper_commits : PF := ⟨144, [.t 2],
  (.seq (.reg [o 1 (.box (.t 0)), o 2 (.mov (.c (.bool false)))])
  (.seq (.reg [o 11 (.load false 1 (.t 1)), o 12 (.nilck (.t 11)), o 13 (.faddr 1 (.t 12)), o 14 (.faddr 1 (.t 13)), o 15 (.load true 6 (.t 14)), o 3 (.alloc [(.int .u8 0), (.int .u32 0), (.int .u32 0), (.int .u32 0), (.int .u32 0), (.int .u64 0)] none), u (.store 6 (.t 3) (.t 15))])
  (.seq (.seq (.dreg [(o 16 (.load false 1 (.t 1)), []), (o 17 (.nilck (.t 16)), []), (o 18 (.faddr 1 (.t 17)), []), (o 19 (.faddr 9 (.t 18)), []), (o 20 (.faddr 1 (.t 19)), []), (o 21 (.load false 1 (.t 20)), []), (o 22 (.bin .gtr (.t 21) (ci 0)), []), (o 23 (.mov (.t 22)), []), (gt 23 (some 24) (.load false 1 (.t 1)), []), (gt 23 (some 25) (.nilck (.t 24)), []), (gt 23 (some 26) (.faddr 0 (.t 25)), []), (gt 23 (some 27) (.load false 1 (.t 26)), []), (gt 23 (some 28) (.nilck (.t 27)), []), (gt 23 (some 29) (.faddr 0 (.t 28)), []), (gt 23 (some 30) (.load true 952 (.t 29)), []), (gt 23 (some 31) (.load false 1 (.t 1)), [8, 11, 14]), (gt 23 (some 32) (.nilck (.t 31)), []), (gt 23 (some 33) (.faddr 1 (.t 32)), []), (gt 23 (some 34) (.faddr 0 (.t 33)), []), (gt 23 (some 35) (.load false 1 (.t 34)), [8, 11, 14]), (gt 23 (some 36) (.load true 6 (.t 3)), [8, 11, 14, 15, 19]), (gt 23 (some 37) (.call (cf fn_model_State_Needs) [(.t 30), (.t 35), (.t 36)]), []), (gt 23 (some 38) (.load false 1 (.t 1)), [8, 11, 14, 15, 19, 20, 21]), (gt 23 (some 39) (.nilck (.t 38)), []), (gt 23 (some 40) (.faddr 1 (.t 39)), []), (gt 23 (some 41) (.faddr 9 (.t 40)), []), (gt 23 (some 42) (.faddr 1 (.t 41)), []), (gt 23 (some 43) (.load false 1 (.t 42)), [8, 11, 14, 15, 19, 20, 21]), (gt 23 (some 44) (.ne .int (.t 37) (.t 43)), []), (o 45 (.pick (.t 23) (.t 44) (.c (.bool false))), [])])
  (.cond (.t 45) (.seq (.dreg [(o 46 (.load false 1 (.t 1)), []), (o 47 (.nilck (.t 46)), []), (o 48 (.faddr 0 (.t 47)), []), (o 49 (.load false 1 (.t 48)), []), (o 50 (.load false 1 (.t 1)), [0, 3]), (o 51 (.nilck (.t 50)), []), (o 52 (.faddr 1 (.t 51)), []), (o 53 (.faddr 9 (.t 52)), []), (o 54 (.load true 2 (.t 53)), [0, 3]), (o 55 (.call (cf fn_Pcall_Core_queue) [(.t 49), (.t 54)]), [])])
    (.reg [o 56 (.load false 1 (.t 1)), o 57 (.build [(.int .i64 0), (.int .i64 0)] []), o 58 (.nilck (.t 56)), o 59 (.faddr 1 (.t 58)), o 60 (.faddr 9 (.t 59)), u (.store 2 (.t 60) (.t 57))])) .skip))
  (.seq (.dreg [(o 62 (.load false 1 (.t 1)), []), (o 63 (.nilck (.t 62)), []), (o 64 (.faddr 0 (.t 63)), []), (o 65 (.load false 1 (.t 64)), []), (o 66 (.nilck (.t 65)), []), (o 67 (.faddr 0 (.t 66)), []), (o 68 (.load true 952 (.t 67)), []), (o 69 (.load true 6 (.t 3)), [0, 3, 6]), (o 70 (.call (cf fn_model_State_Place) [(.t 68), (.t 69)]), []), (o 61 (.mov (.t 70)), []), (o 71 (.ext (.t 61) 0), []), (o 72 (.ext (.t 61) 1), []), (o 4 (.mov (.t 71)), []), (o 5 (.mov (.t 72)), [])])
  (.seq (.dreg [(o 74 (.load false 1 (.t 1)), []), (o 75 (.nilck (.t 74)), []), (o 76 (.faddr 0 (.t 75)), []), (o 77 (.load false 1 (.t 76)), []), (o 78 (.nilck (.t 77)), []), (o 79 (.faddr 0 (.t 78)), []), (o 80 (.load true 952 (.t 79)), []), (o 81 (.load false 1 (.t 1)), [0, 3, 6]), (o 82 (.nilck (.t 81)), []), (o 83 (.faddr 1 (.t 82)), []), (o 84 (.faddr 0 (.t 83)), []), (o 85 (.load false 1 (.t 84)), [0, 3, 6]), (o 86 (.load true 6 (.t 3)), [0, 3, 6, 7, 11]), (o 87 (.load false 1 (.t 1)), [0, 3, 6, 7, 11, 12]), (o 88 (.nilck (.t 87)), []), (o 89 (.faddr 1 (.t 88)), []), (o 90 (.faddr 9 (.t 89)), []), (o 91 (.load true 2 (.t 90)), [0, 3, 6, 7, 11, 12]), (o 92 (.call (cf fn_model_State_Do) [(.t 80), (.t 85), (.t 86), (.t 91)]), []), (o 73 (.mov (.t 92)), []), (o 93 (.ext (.t 73) 0), []), (o 94 (.ext (.t 73) 1), []), (o 95 (.ext (.t 73) 2), []), (o 6 (.alloc z952_2fb3 none), [0, 3, 6, 7, 11, 12, 13, 17, 18]), (o 7 (.alloc [(.int .i64 0), (.int .u64 0), (.int .u32 0)] none), [0, 3, 6, 7, 11, 12, 13, 17, 18, 23]), (u (.store 952 (.t 6) (.t 93)), []), (u (.store 3 (.t 7) (.t 94)), []), (o 8 (.mov (.t 95)), [])])
  (.seq (.seq (.reg [o 96 (.faddr 0 (.t 7)), o 97 (.load false 1 (.t 96)), o 98 (.ne .int (.t 97) (ci 0))])
  (.cond (.t 98) (.seq (.reg [o 99 (.load false 1 (.t 1)), o 100 (.load true 3 (.t 7)), o 101 (.call (cf fn_Pcall_stepper_ends) [(.t 99), (.t 100)])])
    (.seq (.reg [o 2 (.mov (.c (.bool true)))])
    .ret)) .skip))
  (.seq (.seq (.reg [o 102 (.faddr 0 (.t 3)), o 103 (.load false 1 (.t 102))])
  (.block 0 (.seq (.reg [o 105 (.eq .int (.t 103) (.c (.int .u8 4))), o 104 (.mov (.t 105))])
    (.cond (.t 104) (.reg [o 106 (.load false 1 (.t 1)), o 107 (.mov (.t 4)), o 108 (.mkf (.func fn_Pcall_stepper_commits_1) [] [(.t 1), (.t 3)]), o 109 (.call (cf fn_Pcall_stepper_bytes) [(.t 106), (.t 107), (.t 108)])]) (.seq (.reg [o 111 (.eq .int (.t 103) (.c (.int .u8 3))), o 110 (.mov (.t 111))])
      (.cond (.t 110) (.reg [o 112 (.load false 1 (.t 1)), o 113 (.mov (.t 4)), o 114 (.mkf (.func fn_Pcall_stepper_commits_2) [] [(.t 1), (.t 7)]), o 115 (.call (cf fn_Pcall_stepper_bytes) [(.t 112), (.t 113), (.t 114)])]) .skip))))))
  (.seq (.dreg [(o 116 (.load false 1 (.t 1)), []), (o 117 (.nilck (.t 116)), []), (o 118 (.faddr 0 (.t 117)), []), (o 119 (.load false 1 (.t 118)), []), (o 120 (.load false 1 (.t 1)), [0, 3]), (o 121 (.load true 952 (.t 6)), [0, 3, 4]), (o 122 (.build [(.int .i64 0), (.int .i64 0)] []), []), (o 123 (.nilck (.t 119)), []), (o 124 (.faddr 0 (.t 123)), []), (u (.store 952 (.t 124) (.t 121)), [4]), (o 125 (.nilck (.t 120)), []), (o 126 (.faddr 1 (.t 125)), []), (o 127 (.faddr 9 (.t 126)), []), (u (.store 2 (.t 127) (.t 122)), [])])
  (.seq (.seq (.reg [o 128 (.mov (.t 8)), o 129 (.len .sl (.t 128)), o 130 (.mov (ci 0))])
  (.block 1 (.loop l1_Pcall_stepper_commits)))
  (.seq (.reg [o 141 (.load false 1 (.t 1)), o 142 (.load true 3 (.t 7)), o 143 (.call (cf fn_Pcall_stepper_ends) [(.t 141), (.t 142)])])
  (.seq (.reg [o 2 (.mov (.c (.bool true)))])
  .ret)))))))))))⟩

def pf_task_Task_Takes : PF := ⟨48, [.cell 4 true 10],
  (.seq (.reg [o 2 (.box (.t 0)), o 3 (.box (.t 1)), o 4 (.alloc [.nils, (.int .i64 0), (.int .u64 0), (.int .u64 0), (.int .u64 0), (.int .u64 0), (.int .u64 0), (.int .u64 0), (.int .u64 0), (.int .u64 0)] none)])
  (.seq (.reg [o 10 (.load true 10 (.t 2)), o 11 (.call (cf fn_task_Task_instr) [(.t 10)]), o 9 (.mov (.t 11)), o 12 (.ext (.t 9) 0), o 13 (.ext (.t 9) 1), o 5 (.alloc [(.int .u8 0), (.int .u8 0), (.int .u8 0), (.int .u8 0), (.int .u16 0)] none), u (.store 5 (.t 5) (.t 12)), o 6 (.mov (.t 13))])
  (.seq (.seq (.reg [o 15 (.load true 10 (.t 2)), o 16 (.call (cf fn_task_Task_Wants) [(.t 15)]), o 14 (.mov (.t 16)), o 17 (.ext (.t 14) 0), o 18 (.ext (.t 14) 1), o 7 (.alloc [(.int .u8 0), (.int .u32 0), (.int .u32 0), (.int .u32 0), (.int .u32 0), (.int .u64 0)] none), u (.store 6 (.t 7) (.t 17)), o 8 (.mov (.t 18))])
  (.seq (.reg [o 19 (.mov (.t 6)), o 20 (.un .not (.t 19)), o 21 (.mov (.t 20)), gf 21 (some 22) (.mov (.t 8)), gf 21 (some 23) (.un .not (.t 22)), o 24 (.pick (.t 21) (.c (.bool true)) (.t 23))])
  (.cond (.t 24) (.seq (.reg [o 25 (.load true 10 (.t 2)), u (.store 10 (.t 4) (.t 25))])
    .ret) .skip)))
  (.seq (.reg [o 26 (.faddr 1 (.t 5)), o 27 (.load false 1 (.t 26)), o 28 (.bin .rem (.t 27) (.c (.int .u8 8))), o 29 (.faddr 1 (.t 3)), o 30 (.load false 1 (.t 29)), o 31 (.faddr 2 (.t 2)), o 32 (.iaddra 8 1 (.t 31) (.t 28)), u (.store 1 (.t 32) (.t 30))])
  (.seq (.reg [o 33 (.faddr 2 (.t 3)), o 34 (.load false 1 (.t 33)), o 35 (.conv .u64 (.t 34)), o 36 (.faddr 2 (.t 2)), o 37 (.iaddra 8 1 (.t 36) (ci 4)), u (.store 1 (.t 37) (.t 35))])
  (.seq (.reg [o 38 (.faddr 0 (.t 3)), o 39 (.load false 1 (.t 38)), o 40 (.conv .u64 (.t 39)), o 41 (.faddr 2 (.t 2)), o 42 (.iaddra 8 1 (.t 41) (ci 7)), u (.store 1 (.t 42) (.t 40))])
  (.seq (.reg [o 43 (.faddr 1 (.t 2)), o 44 (.load false 1 (.t 43)), o 45 (.bin .add (.t 44) (ci 1)), o 46 (.faddr 1 (.t 2)), u (.store 1 (.t 46) (.t 45))])
  (.seq (.reg [o 47 (.load true 10 (.t 2)), u (.store 10 (.t 4) (.t 47))])
  .ret))))))))⟩

def pf_mark_Marks_Free : PF := ⟨26, [.cell 6 true 320],
  (.seq (.reg [o 3 (.box (.t 0)), o 6 (.alloc z320_96f1 none)])
  (.seq (.seq (.reg [o 7 (.mov (.t 1)), o 8 (.mov (.t 2)), o 9 (.call (cf fn_mark_may) [(.t 7), (.t 8)]), o 10 (.mov (.t 9)), gt 10 (some 11) (.mov (.t 1)), gt 10 (some 12) (.faddr 0 (.t 3)), gt 10 (some 13) (.iaddra 32 10 (.t 12) (.t 11)), gt 10 (some 14) (.faddr 0 (.t 13)), gt 10 (some 15) (.load false 1 (.t 14)), gt 10 (some 16) (.conv .i64 (.t 15)), gt 10 (some 17) (.mov (.t 2)), gt 10 (some 18) (.bin .add (.t 17) (ci 1)), gt 10 (some 19) (.eq .int (.t 16) (.t 18)), o 20 (.pick (.t 10) (.t 19) (.c (.bool false)))])
  (.cond (.t 20) (.reg [o 21 (.mov (.t 1)), o 22 (.faddr 0 (.t 3)), o 23 (.iaddra 32 10 (.t 22) (.t 21)), o 24 (.faddr 0 (.t 23)), u (.store 1 (.t 24) (.c (.int .u8 0)))]) .skip))
  (.seq (.reg [o 25 (.load true 320 (.t 3)), u (.store 320 (.t 6) (.t 25))])
  .ret)))⟩

def pf_mark_line_without : PF := ⟨29, [.cell 4 true 10],
  (.seq (.reg [o 2 (.box (.t 0)), o 4 (.alloc [(.int .u8 0), (.int .i64 0), (.int .u8 0), (.int .u8 0), (.int .u8 0), (.int .u8 0), (.int .u8 0), (.int .u8 0), (.int .u8 0), (.int .u8 0)] none)])
  (.seq (.reg [o 6 (.load true 10 (.t 2)), o 7 (.mov (.t 1)), o 8 (.call (cf fn_mark_line_place) [(.t 6), (.t 7)]), o 5 (.mov (.t 8))])
  (.seq (.seq (.reg [o 9 (.mov (.t 5)), o 10 (.bin .lss (.t 9) (ci 0))])
  (.cond (.t 10) (.seq (.reg [o 11 (.load true 10 (.t 2)), u (.store 10 (.t 4) (.t 11))])
    .ret) .skip))
  (.seq (.dreg [(o 12 (.faddr 2 (.t 2)), []), (o 13 (.mov (.t 5)), []), (o 14 (.slarr 8 1 (.t 12) (some (.t 13)) none), []), (o 15 (.faddr 2 (.t 2)), []), (o 16 (.mov (.t 5)), []), (o 17 (.bin .add (.t 16) (ci 1)), []), (o 18 (.slarr 8 1 (.t 15) (some (.t 17)) none), []), (o 19 (.copy 1 (.t 14) (.t 18)), [])])
  (.seq (.reg [o 20 (.faddr 1 (.t 2)), o 21 (.load false 1 (.t 20)), o 22 (.bin .sub (.t 21) (ci 1)), o 23 (.faddr 1 (.t 2)), u (.store 1 (.t 23) (.t 22))])
  (.seq (.reg [o 24 (.faddr 1 (.t 2)), o 25 (.load false 1 (.t 24)), o 26 (.faddr 2 (.t 2)), o 27 (.iaddra 8 1 (.t 26) (.t 25)), u (.store 1 (.t 27) (.c (.int .u8 0)))])
  (.seq (.reg [o 28 (.load true 10 (.t 2)), u (.store 10 (.t 4) (.t 28))])
  .ret)))))))⟩

def pf_forest_above : PF := ⟨6, [.t 4],
  (.seq (.reg [o 2 (.box (.t 0)), o 3 (.box (.t 1)), o 4 (.mov (.c .nilf))])
  (.seq (.reg [o 5 (.mkf (.func fn_forest_above_1) [] [(.t 2), (.t 3)]), o 4 (.mov (.t 5))])
  .ret))⟩

def pf_handle_of : PF := ⟨11, [.t 4],
  (.seq (.reg [o 4 (.mov (.c (.int .u32 0)))])
  (.seq (.reg [o 5 (.mov (.t 1)), o 6 (.shf .shl (.t 5) (.c (.int .u64 8))), o 7 (.mov (.t 0)), o 8 (.conv .u32 (.t 7)), o 9 (.bin .add (.t 6) (.t 8)), o 10 (.bin .add (.t 9) (.c (.int .u32 1))), o 4 (.mov (.t 10))])
  .ret))⟩

def l1_slices_IndexFunc_code_Instr_code_Instr : PC :=
  (.seq (.reg [o 9 (.bin .lss (.t 8) (.t 7))])
  (.seq (.cond (.t 9) .skip (.exit 0))
  (.seq (.block 1 (.seq (.reg [o 10 (.mov (.t 8)), o 5 (.mov (.t 10))])
    (.seq (.reg [o 11 (.mov (.t 1)), o 12 (.mov (.t 0)), o 13 (.mov (.t 5)), o 14 (.iaddrs 5 (.t 12) (.t 13)), o 15 (.load true 5 (.t 14)), o 16 (.call (.t 11) [(.t 15)])])
    (.cond (.t 16) (.seq (.reg [o 17 (.mov (.t 5)), o 4 (.mov (.t 17))])
      .ret) .skip))))
  (.reg [o 18 (.bin .add (.t 8) (ci 1)), o 8 (.mov (.t 18))]))))
def pf_slices_IndexFunc_code_Instr_code_Instr : PF := ⟨19, [.t 4],
  (.seq (.reg [o 4 (.mov (ci 0))])
  (.seq (.seq (.reg [o 6 (.mov (.t 0)), o 7 (.len .sl (.t 6)), o 8 (.mov (ci 0))])
  (.block 0 (.loop l1_slices_IndexFunc_code_Instr_code_Instr)))
  (.seq (.reg [o 4 (.mov (ci (-1)))])
  .ret)))⟩

def pf_slices_All_runs_Run_runs_Run : PF := ⟨4, [.t 2],
  (.seq (.reg [o 1 (.box (.t 0)), o 2 (.mov (.c .nilf))])
  (.seq (.reg [o 3 (.mkf (.func fn_slices_All_runs_Run_runs_Run_1) [] [(.t 1)]), o 2 (.mov (.t 3))])
  .ret))⟩

def pf_Pcall_stepper_ends : PF := ⟨20, [],
  (.seq (.reg [o 3 (.box (.t 1))])
  (.seq (.reg [o 4 (.mov (.t 0)), o 5 (.mov (.t 0)), o 6 (.load true 3 (.t 3)), o 7 (.nilck (.t 4)), o 8 (.faddr 13 (.t 7)), u (.store 3 (.t 8) (.t 6)), o 9 (.nilck (.t 5)), o 10 (.faddr 16 (.t 9)), u (.store 1 (.t 10) (.c (.bool true)))])
  (.dreg [(o 11 (.mov (.t 0)), []), (o 12 (.nilck (.t 11)), []), (o 13 (.faddr 0 (.t 12)), []), (o 14 (.load false 1 (.t 13)), []), (o 15 (.mov (.t 0)), []), (o 16 (.nilck (.t 15)), []), (o 17 (.faddr 1 (.t 16)), []), (o 18 (.load true 12 (.t 17)), [3]), (o 19 (.call (cf fn_Pcall_Core_Cut) [(.t 14), (.t 18)]), [])])))⟩

def pf_plan_Regions : PF := ⟨41, [.t 4],
  (.seq (.reg [o 2 (.box (.t 0)), o 3 (.box (.t 1)), o 4 (.mov (.c .nils))])
  (.seq (.reg [o 10 (.mkf (.func fn_plan_Regions_1) [] [(.t 2), (.t 3)]), o 5 (.alloc [.nilf] none), u (.store 1 (.t 5) (.t 10))])
  (.seq (.reg [o 11 (.mkf (.func fn_plan_Regions_2) [] [(.t 2), (.t 3)]), o 6 (.alloc [.nilf] none), u (.store 1 (.t 6) (.t 11))])
  (.seq (.reg [o 12 .mkmap, o 13 (.load false 1 (.t 5)), u (.mput .int (.t 12) (.c (.int .u8 1)) (.t 13)), o 14 (.load false 1 (.t 5)), u (.mput .int (.t 12) (.c (.int .u8 2)) (.t 14)), o 15 (.load false 1 (.t 5)), u (.mput .int (.t 12) (.c (.int .u8 3)) (.t 15)), o 16 (.load false 1 (.t 5)), u (.mput .int (.t 12) (.c (.int .u8 4)) (.t 16)), o 17 (.load false 1 (.t 5)), u (.mput .int (.t 12) (.c (.int .u8 5)) (.t 17)), o 18 (.load false 1 (.t 5)), u (.mput .int (.t 12) (.c (.int .u8 10)) (.t 18)), o 19 (.load false 1 (.t 5)), u (.mput .int (.t 12) (.c (.int .u8 12)) (.t 19)), o 20 (.load false 1 (.t 5)), u (.mput .int (.t 12) (.c (.int .u8 18)) (.t 20)), o 21 (.load false 1 (.t 5)), u (.mput .int (.t 12) (.c (.int .u8 19)) (.t 21)), o 22 (.load false 1 (.t 6)), u (.mput .int (.t 12) (.c (.int .u8 6)) (.t 22)), o 23 (.load false 1 (.t 6)), u (.mput .int (.t 12) (.c (.int .u8 7)) (.t 23)), o 24 (.load false 1 (.t 6)), u (.mput .int (.t 12) (.c (.int .u8 9)) (.t 24)), o 25 (.load false 1 (.t 6)), u (.mput .int (.t 12) (.c (.int .u8 11)) (.t 25)), o 26 (.mkf (.func fn_plan_Regions_3) [] [(.t 6), (.t 2), (.t 3)]), u (.mput .int (.t 12) (.c (.int .u8 8)) (.t 26)), o 27 (.mkf (.func fn_plan_Regions_4) [] [(.t 2), (.t 3)]), u (.mput .int (.t 12) (.c (.int .u8 13)) (.t 27)), o 28 (.mkf (.func fn_plan_Regions_5) [] [(.t 3), (.t 5), (.t 6)]), u (.mput .int (.t 12) (.c (.int .u8 14)) (.t 28)), o 29 (.mov (.t 12)), o 7 (.mov (.t 29))])
  (.seq (.reg [o 31 (.mov (.t 7)), o 32 (.faddr 0 (.t 3)), o 33 (.load false 1 (.t 32)), o 34 (.lookup .int .nilf (.t 31) (.t 33) true), o 30 (.mov (.t 34)), o 35 (.ext (.t 30) 0), o 36 (.ext (.t 30) 1), o 8 (.mov (.t 35)), o 9 (.mov (.t 36))])
  (.seq (.seq (.reg [o 37 (.mov (.t 9)), o 38 (.un .not (.t 37))])
  (.cond (.t 38) (.seq (.reg [o 4 (.mov (.c .nils))])
    .ret) .skip))
  (.seq (.reg [o 39 (.mov (.t 8)), o 40 (.call (.t 39) []), o 4 (.mov (.t 40))])
  .ret)))))))⟩

def pf_mark_Marks_Try : PF := ⟨85, [.cell 6 true 320, .t 7],
  (.seq (.reg [o 3 (.box (.t 0)), o 6 (.alloc z320_96f1 none), o 7 (.mov (.c (.bool false)))])
  (.seq (.seq (.reg [o 10 (.mov (.t 1)), o 11 (.mov (.t 2)), o 12 (.call (cf fn_mark_may) [(.t 10), (.t 11)]), o 13 (.un .not (.t 12))])
  (.cond (.t 13) (.seq (.reg [o 14 (.load true 320 (.t 3)), u (.store 320 (.t 6) (.t 14)), o 7 (.mov (.c (.bool false)))])
    .ret) .skip))
  (.seq (.reg [o 15 (.mov (.t 1)), o 16 (.faddr 0 (.t 3)), o 17 (.iaddra 32 10 (.t 16) (.t 15)), o 8 (.mov (.t 17))])
  (.seq (.seq (.reg [o 18 (.mov (.t 8)), o 19 (.nilck (.t 18)), o 20 (.load true 10 (.t 19)), o 21 (.mov (.t 2)), o 22 (.call (cf fn_mark_line_place) [(.t 20), (.t 21)]), o 9 (.mov (.t 22))])
  (.block 0 (.seq (.reg [o 24 (.mov (.t 8)), o 25 (.nilck (.t 24)), o 26 (.faddr 0 (.t 25)), o 27 (.load false 1 (.t 26)), o 28 (.conv .i64 (.t 27)), o 29 (.mov (.t 2)), o 30 (.bin .add (.t 29) (ci 1)), o 31 (.eq .int (.t 28) (.t 30)), o 23 (.mov (.t 31))])
    (.cond (.t 23) (.seq (.reg [o 32 (.load true 320 (.t 3)), u (.store 320 (.t 6) (.t 32)), o 7 (.mov (.c (.bool true)))])
      .ret) (.seq (.reg [o 34 (.mov (.t 8)), o 35 (.nilck (.t 34)), o 36 (.faddr 0 (.t 35)), o 37 (.load false 1 (.t 36)), o 38 (.eq .int (.t 37) (.c (.int .u8 0))), o 39 (.mov (.t 38)), gt 39 (some 40) (.mov (.t 8)), gt 39 (some 41) (.nilck (.t 40)), gt 39 (some 42) (.faddr 1 (.t 41)), gt 39 (some 43) (.load false 1 (.t 42)), gt 39 (some 44) (.eq .int (.t 43) (ci 0)), gt 39 (some 45) (.mov (.t 44)), gf 45 (some 46) (.mov (.t 9)), gf 45 (some 47) (.eq .int (.t 46) (ci 0)), gt 39 (some 48) (.pick (.t 45) (.c (.bool true)) (.t 47)), o 49 (.pick (.t 39) (.t 48) (.c (.bool false))), o 33 (.mov (.t 49))])
      (.cond (.t 33) (.seq (.reg [o 50 (.mov (.t 8)), o 51 (.mov (.t 8)), o 52 (.nilck (.t 51)), o 53 (.load true 10 (.t 52)), o 54 (.mov (.t 2)), o 55 (.call (cf fn_mark_line_without) [(.t 53), (.t 54)]), o 56 (.nilck (.t 50)), u (.store 10 (.t 56) (.t 55))])
        (.seq (.reg [o 57 (.mov (.t 8)), o 58 (.mov (.t 2)), o 59 (.bin .add (.t 58) (ci 1)), o 60 (.conv .u8 (.t 59)), o 61 (.nilck (.t 57)), o 62 (.faddr 0 (.t 61)), u (.store 1 (.t 62) (.t 60))])
        (.seq (.reg [o 63 (.load true 320 (.t 3)), u (.store 320 (.t 6) (.t 63)), o 7 (.mov (.c (.bool true)))])
        .ret))) (.seq (.reg [o 65 (.mov (.t 9)), o 66 (.bin .lss (.t 65) (ci 0)), o 64 (.mov (.t 66))])
        (.cond (.t 64) (.seq (.dreg [(o 67 (.mov (.t 8)), []), (o 68 (.mov (.t 8)), []), (o 69 (.nilck (.t 68)), []), (o 70 (.faddr 1 (.t 69)), []), (o 71 (.load false 1 (.t 70)), []), (o 72 (.mov (.t 2)), []), (o 73 (.conv .u8 (.t 72)), []), (o 74 (.nilck (.t 67)), []), (o 75 (.faddr 2 (.t 74)), []), (o 76 (.iaddra 8 1 (.t 75) (.t 71)), []), (u (.store 1 (.t 76) (.t 73)), [])])
          (.reg [o 77 (.mov (.t 8)), o 78 (.nilck (.t 77)), o 79 (.faddr 1 (.t 78)), o 80 (.load false 1 (.t 79)), o 81 (.bin .add (.t 80) (ci 1)), o 82 (.nilck (.t 77)), o 83 (.faddr 1 (.t 82)), u (.store 1 (.t 83) (.t 81))])) .skip))))))))
  (.seq (.reg [o 84 (.load true 320 (.t 3)), u (.store 320 (.t 6) (.t 84)), o 7 (.mov (.c (.bool false)))])
  .ret)))))⟩

def pf_Ppool_Pool_Claim : PF := ⟨39, [.t 4, .t 5],
  (.seq (.reg [o 4 (.mov (ci 0)), o 5 (.mov (ci 0))])
  (.seq (.block 0 (.seq (.reg [o 9 (.mov (.t 0)), o 10 (.eq .ptr (.t 9) (.c .nilp)), o 8 (.mov (.t 10))])
    (.cond (.t 8) (.seq (.reg [o 4 (.mov (ci 0)), o 5 (.mov (ci 1))])
      .ret) (.seq (.reg [o 12 (.mov (.t 1)), o 13 (.bin .lss (.t 12) (ci 1)), o 11 (.mov (.t 13))])
      (.cond (.t 11) (.seq (.reg [o 4 (.mov (ci 0)), o 5 (.mov (ci 2))])
        .ret) .skip)))))
  (.seq (.reg [o 15 (.mov (.t 0)), o 16 (.nilck (.t 15)), o 17 (.faddr 1 (.t 16)), o 18 (.load true 1 (.t 17)), o 19 (.mov (.t 1)), o 20 (.call (cf fn_runs_Runs_Find) [(.t 18), (.t 19)]), o 14 (.mov (.t 20)), o 21 (.ext (.t 14) 0), o 22 (.ext (.t 14) 1), o 6 (.mov (.t 21)), o 7 (.mov (.t 22))])
  (.seq (.seq (.reg [o 23 (.mov (.t 7)), o 24 (.un .not (.t 23))])
  (.cond (.t 24) (.seq (.reg [o 4 (.mov (ci 0)), o 5 (.mov (ci 6))])
    .ret) .skip))
  (.seq (.reg [o 26 (.mov (.t 0)), o 27 (.mov (.t 0)), o 28 (.nilck (.t 27)), o 29 (.faddr 1 (.t 28)), o 30 (.load true 1 (.t 29)), o 31 (.mov (.t 6)), o 32 (.mov (.t 1)), o 33 (.call (cf fn_runs_Runs_Take) [(.t 30), (.t 31), (.t 32)]), o 25 (.mov (.t 33)), o 34 (.ext (.t 25) 0), o 35 (.ext (.t 25) 1), o 36 (.nilck (.t 26)), o 37 (.faddr 1 (.t 36)), u (.store 1 (.t 37) (.t 34))])
  (.seq (.reg [o 38 (.mov (.t 6)), o 4 (.mov (.t 38)), o 5 (.mov (ci 0))])
  .ret))))))⟩

def pf_Ppool_Pool_Clear : PF := ⟨8, [.t 4],
  (.seq (.reg [o 4 (.mov (ci 0))])
  (.seq (.reg [o 5 (.mov (.t 0)), o 6 (.mov (.t 1)), o 7 (.call (cf fn_Ppool_Pool_lent) [(.t 5), (.t 6), (cf fn_Ppool_Pool_Clear_1)]), o 4 (.mov (.t 7))])
  .ret))⟩

def l1_model_State_Place : PC :=
  (.seq (.reg [o 60 (.bin .lss (.t 59) (.t 58))])
  (.seq (.cond (.t 60) .skip (.exit 1))
  (.seq (.block 2 (.seq (.reg [o 61 (.mov (.t 59)), o 9 (.mov (.t 61))])
    (.seq (.reg [o 63 (.faddr 2 (.t 6)), o 64 (.load true 2 (.t 63)), o 65 (.faddr 3 (.t 3)), o 66 (.load false 1 (.t 65)), o 67 (.conv .i64 (.t 66)), o 68 (.mov (.t 9)), o 69 (.bin .add (.t 67) (.t 68)), o 70 (.call (cf fn_extent_Extent_Place) [(.t 64), (.t 69)]), o 62 (.mov (.t 70)), o 71 (.ext (.t 62) 0), o 72 (.ext (.t 62) 1), o 10 (.mov (.t 71)), o 11 (.mov (.t 72))])
    (.reg [o 73 (.mov (.t 8)), o 74 (.mov (.t 10)), o 75 (.bslice [(.int .i64 0)] 1 [(0, 1, (.t 74))]), o 76 (.append ty_int 1 8 (.t 73) (.t 75)), o 8 (.mov (.t 76))]))))
  (.reg [o 77 (.bin .add (.t 59) (ci 1)), o 59 (.mov (.t 77))]))))
def pf_model_State_Place : PF := ⟨80, [.t 4, .t 5],
  (.seq (.reg [o 2 (.box (.t 0)), o 3 (.box (.t 1)), o 4 (.mov (.c .nils)), o 5 (.mov (ci 0))])
  (.seq (.reg [o 13 (.faddr 0 (.t 2)), o 14 (.faddr 0 (.t 13)), o 15 (.load true 480 (.t 14)), o 16 (.faddr 1 (.t 3)), o 17 (.load false 1 (.t 16)), o 18 (.call (cf fn_table_Table_Get) [(.t 15), (.t 17)]), o 12 (.mov (.t 18)), o 19 (.ext (.t 12) 0), o 20 (.ext (.t 12) 1), o 6 (.alloc [(.int .u32 0), (.int .i64 0), .nils, (.int .i64 0), (.int .u32 0), (.int .u32 0), (.int .u32 0), (.int .u32 0), (.int .u32 0), (.int .u32 0), (.int .u32 0), (.int .u32 0)] none), u (.store 12 (.t 6) (.t 19)), o 7 (.mov (.t 20))])
  (.seq (.block 0 (.seq (.reg [o 22 (.mov (.t 7)), o 23 (.ne .int (.t 22) (ci 0)), o 21 (.mov (.t 23))])
    (.cond (.t 21) (.seq (.reg [o 24 (.mov (.t 7)), o 4 (.mov (.c .nils)), o 5 (.mov (.t 24))])
      .ret) (.seq (.reg [o 26 (.faddr 0 (.t 3)), o 27 (.load false 1 (.t 26)), o 28 (.ne .int (.t 27) (.c (.int .u8 3))), o 29 (.mov (.t 28)), gt 29 (some 30) (.faddr 0 (.t 3)), gt 29 (some 31) (.load false 1 (.t 30)), gt 29 (some 32) (.ne .int (.t 31) (.c (.int .u8 4))), o 33 (.pick (.t 29) (.t 32) (.c (.bool false))), o 34 (.mov (.t 33)), gf 34 (some 35) (.faddr 4 (.t 3)), gf 34 (some 36) (.load false 1 (.t 35)), gf 34 (some 37) (.bin .lss (.t 36) (.c (.int .u32 1))), o 38 (.pick (.t 34) (.c (.bool true)) (.t 37)), o 39 (.mov (.t 38)), gf 39 (some 40) (.faddr 4 (.t 3)), gf 39 (some 41) (.load false 1 (.t 40)), gf 39 (some 42) (.bin .gtr (.t 41) (.c (.int .u32 8))), o 43 (.pick (.t 39) (.c (.bool true)) (.t 42)), o 25 (.mov (.t 43))])
      (.cond (.t 25) (.seq (.reg [o 4 (.mov (.c .nils)), o 5 (.mov (ci 2))])
        .ret) (.seq (.reg [o 45 (.faddr 3 (.t 3)), o 46 (.load false 1 (.t 45)), o 47 (.conv .i64 (.t 46)), o 48 (.faddr 2 (.t 6)), o 49 (.faddr 1 (.t 48)), o 50 (.load false 1 (.t 49)), o 51 (.faddr 4 (.t 3)), o 52 (.load false 1 (.t 51)), o 53 (.conv .i64 (.t 52)), o 54 (.bin .sub (.t 50) (.t 53)), o 55 (.bin .gtr (.t 47) (.t 54)), o 44 (.mov (.t 55))])
        (.cond (.t 44) (.seq (.reg [o 4 (.mov (.c .nils)), o 5 (.mov (ci 9))])
          .ret) .skip)))))))
  (.seq (.reg [o 8 (.mov (.c .nils))])
  (.seq (.seq (.reg [o 56 (.faddr 4 (.t 3)), o 57 (.load false 1 (.t 56)), o 58 (.conv .i64 (.t 57)), o 59 (.mov (ci 0))])
  (.block 1 (.loop l1_model_State_Place)))
  (.seq (.reg [o 78 (.mov (.t 8)), o 79 (.call (cf fn_slices_Clip_int_int) [(.t 78)]), o 4 (.mov (.t 79)), o 5 (.mov (ci 0))])
  .ret))))))⟩

def l1_Pcall_stepper_bytes : PC :=
  (.seq (.reg [o 11 (.bin .lss (.t 10) (.t 9))])
  (.seq (.cond (.t 11) .skip (.exit 0))
  (.seq (.block 1 (.seq (.reg [o 12 (.mov (.t 10)), o 13 (.iaddrs 1 (.t 8) (.t 10)), o 14 (.load false 1 (.t 13)), o 6 (.mov (.t 12)), o 7 (.mov (.t 14))])
    (.reg [o 15 (.mov (.t 2)), o 16 (.mov (.t 7)), o 17 (.mov (.t 6)), o 18 (.call (.t 15) [(.t 16), (.t 17)])])))
  (.reg [o 19 (.bin .add (.t 10) (ci 1)), o 10 (.mov (.t 19))]))))
def pf_Pcall_stepper_bytes : PF := ⟨20, [],
  (.seq (.reg [o 8 (.mov (.t 1)), o 9 (.len .sl (.t 8)), o 10 (.mov (ci 0))])
  (.block 0 (.loop l1_Pcall_stepper_bytes)))⟩

def pf_Pcall_stepper_commits_1 : PF := ⟨21, [],
  (.dreg [(o 6 (.load false 1 (.t 2)), []), (o 7 (.nilck (.t 6)), []), (o 8 (.faddr 0 (.t 7)), []), (o 9 (.load false 1 (.t 8)), []), (o 10 (.nilck (.t 9)), []), (o 11 (.faddr 952 (.t 10)), []), (o 12 (.load false 1 (.t 11)), []), (o 13 (.mov (.t 0)), []), (o 14 (.faddr 5 (.t 3)), []), (o 15 (.load false 1 (.t 14)), [0, 3, 6]), (o 16 (.mov (.t 1)), []), (o 17 (.bin .mul (ci 8) (.t 16)), []), (o 18 (.shf .shr (.t 15) (.t 17)), []), (o 19 (.conv .u8 (.t 18)), []), (o 20 (.call (cf fn_Ppool_Pool_Write) [(.t 12), (.t 13), (.t 19)]), [])])⟩

def pf_Ppool_Pool_Write : PF := ⟨11, [.t 6],
  (.seq (.reg [o 5 (.box (.t 2)), o 6 (.mov (ci 0))])
  (.seq (.reg [o 7 (.mov (.t 0)), o 8 (.mov (.t 1)), o 9 (.mkf (.func fn_Ppool_Pool_Write_1) [] [(.t 5)]), o 10 (.call (cf fn_Ppool_Pool_byte) [(.t 7), (.t 8), (.t 9)]), o 6 (.mov (.t 10))])
  .ret))⟩

def pf_Pcall_stepper_commits_2 : PF := ⟨29, [],
  (.seq (.reg [o 9 (.load false 1 (.t 2)), o 10 (.nilck (.t 9)), o 11 (.faddr 0 (.t 10)), o 12 (.load false 1 (.t 11)), o 13 (.nilck (.t 12)), o 14 (.faddr 952 (.t 13)), o 15 (.load false 1 (.t 14)), o 16 (.mov (.t 0)), o 17 (.call (cf fn_Ppool_Pool_Read) [(.t 15), (.t 16)]), o 8 (.mov (.t 17)), o 18 (.ext (.t 8) 0), o 19 (.ext (.t 8) 1), o 6 (.mov (.t 18)), o 7 (.mov (.t 19))])
  (.dreg [(o 20 (.faddr 1 (.t 3)), []), (o 21 (.load false 1 (.t 20)), []), (o 22 (.mov (.t 6)), []), (o 23 (.conv .u64 (.t 22)), []), (o 24 (.mov (.t 1)), []), (o 25 (.bin .mul (ci 8) (.t 24)), []), (o 26 (.shf .shl (.t 23) (.t 25)), []), (o 27 (.bin .or (.t 21) (.t 26)), []), (o 28 (.faddr 1 (.t 3)), []), (u (.store 1 (.t 28) (.t 27)), [])]))⟩

def pf_mark_line_place : PF := ⟨12, [.t 4],
  (.seq (.reg [o 2 (.box (.t 0)), o 4 (.mov (ci 0))])
  (.seq (.reg [o 5 (.faddr 2 (.t 2)), o 6 (.faddr 1 (.t 2)), o 7 (.load false 1 (.t 6)), o 8 (.slarr 8 1 (.t 5) none (some (.t 7))), o 9 (.mov (.t 1)), o 10 (.conv .u8 (.t 9)), o 11 (.call (cf fn_slices_Index_uint8_uint8) [(.t 8), (.t 10)]), o 4 (.mov (.t 11))])
  .ret))⟩

def l1_forest_above_1 : PC :=
  (.block 1 (.seq (.reg [o 7 (.load true 480 (.t 1)), o 8 (.load false 1 (.t 2)), o 9 (.call (cf fn_table_Table_Get) [(.t 7), (.t 8)]), o 6 (.mov (.t 9)), o 10 (.ext (.t 6) 0), o 11 (.ext (.t 6) 1), o 4 (.alloc [(.int .u32 0), (.int .i64 0), .nils, (.int .i64 0), (.int .u32 0), (.int .u32 0), (.int .u32 0), (.int .u32 0), (.int .u32 0), (.int .u32 0), (.int .u32 0), (.int .u32 0)] none), u (.store 12 (.t 4) (.t 10)), o 5 (.mov (.t 11))])
    (.seq (.seq (.reg [o 12 (.mov (.t 5)), o 13 (.ne .int (.t 12) (ci 0)), o 14 (.mov (.t 13)), gf 14 (some 15) (.faddr 0 (.t 4)), gf 14 (some 16) (.load false 1 (.t 15)), gf 14 (some 17) (.eq .int (.t 16) (.c (.int .u32 0))), o 18 (.pick (.t 14) (.c (.bool true)) (.t 17)), o 19 (.mov (.t 18)), gf 19 (some 20) (.mov (.t 0)), gf 19 (some 21) (.faddr 0 (.t 4)), gf 19 (some 22) (.load false 1 (.t 21)), gf 19 (some 23) (.call (.t 20) [(.t 22)]), gf 19 (some 24) (.un .not (.t 23)), o 25 (.pick (.t 19) (.c (.bool true)) (.t 24))])
    (.cond (.t 25) .ret .skip))
    (.reg [o 26 (.faddr 0 (.t 4)), o 27 (.load false 1 (.t 26)), u (.store 1 (.t 2) (.t 27))]))))
def pf_forest_above_1 : PF := ⟨28, [],
  (.block 0 (.loop l1_forest_above_1))⟩

def l1_slices_All_runs_Run_runs_Run_1 : PC :=
  (.seq (.reg [o 8 (.bin .lss (.t 7) (.t 6))])
  (.seq (.cond (.t 8) .skip (.exit 0))
  (.seq (.block 1 (.seq (.reg [o 9 (.mov (.t 7)), o 10 (.iaddrs 2 (.t 5) (.t 7)), o 11 (.load true 2 (.t 10)), o 4 (.alloc [(.int .i64 0), (.int .i64 0)] none), o 3 (.mov (.t 9)), u (.store 2 (.t 4) (.t 11))])
    (.seq (.reg [o 12 (.mov (.t 0)), o 13 (.mov (.t 3)), o 14 (.load true 2 (.t 4)), o 15 (.call (.t 12) [(.t 13), (.t 14)]), o 16 (.un .not (.t 15))])
    (.cond (.t 16) .ret .skip))))
  (.reg [o 17 (.bin .add (.t 7) (ci 1)), o 7 (.mov (.t 17))]))))
def pf_slices_All_runs_Run_runs_Run_1 : PF := ⟨18, [],
  (.seq (.reg [o 5 (.load false 1 (.t 1)), o 6 (.len .sl (.t 5)), o 7 (.mov (ci 0))])
  (.block 0 (.loop l1_slices_All_runs_Run_runs_Run_1)))⟩

def pf_plan_Regions_1 : PF := ⟨7, [.t 2],
  (.seq (.reg [o 2 (.mov (.c .nils))])
  (.seq (.reg [o 3 (.load true 952 (.t 0)), o 4 (.faddr 1 (.t 1)), o 5 (.load false 1 (.t 4)), o 6 (.call (cf fn_plan_one) [(.t 3), (.t 5)]), o 2 (.mov (.t 6))])
  .ret))⟩

def pf_plan_one : PF := ⟨15, [.t 4],
  (.seq (.reg [o 2 (.box (.t 0)), o 4 (.mov (.c .nils))])
  (.seq (.seq (.reg [o 5 (.faddr 0 (.t 2)), o 6 (.faddr 0 (.t 5)), o 7 (.faddr 0 (.t 6)), o 8 (.faddr 0 (.t 7)), o 9 (.load true 96 (.t 8)), o 10 (.mov (.t 1)), o 11 (.call (cf fn_handle_Book_Good) [(.t 9), (.t 10)]), o 12 (.un .not (.t 11))])
  (.cond (.t 12) (.seq (.reg [o 4 (.mov (.c .nils))])
    .ret) .skip))
  (.seq (.reg [o 13 (.mov (.t 1)), o 14 (.bslice [(.int .u32 0)] 1 [(0, 1, (.t 13))]), o 4 (.mov (.t 14))])
  .ret)))⟩

def pf_plan_Regions_2 : PF := ⟨9, [.t 2],
  (.seq (.reg [o 2 (.mov (.c .nils))])
  (.seq (.reg [o 3 (.faddr 0 (.t 0)), o 4 (.faddr 0 (.t 3)), o 5 (.load true 480 (.t 4)), o 6 (.faddr 1 (.t 1)), o 7 (.load false 1 (.t 6)), o 8 (.call (cf fn_forest_Under) [(.t 5), (.t 7)]), o 2 (.mov (.t 8))])
  .ret))⟩

def pf_forest_Under : PF := ⟨15, [.t 4],
  (.seq (.reg [o 2 (.box (.t 0)), o 4 (.mov (.c .nils))])
  (.seq (.seq (.reg [o 5 (.faddr 0 (.t 2)), o 6 (.faddr 0 (.t 5)), o 7 (.load true 96 (.t 6)), o 8 (.mov (.t 1)), o 9 (.call (cf fn_handle_Book_Good) [(.t 7), (.t 8)]), o 10 (.un .not (.t 9))])
  (.cond (.t 10) (.seq (.reg [o 4 (.mov (.c .nils))])
    .ret) .skip))
  (.seq (.reg [o 11 (.load true 480 (.t 2)), o 12 (.mov (.t 1)), o 13 (.call (cf fn_forest_under) [(.t 11), (.t 12)]), o 14 (.call (cf fn_slices_Collect_handle_Handle) [(.t 13)]), o 4 (.mov (.t 14))])
  .ret)))⟩

def pf_plan_Regions_3 : PF := ⟨31, [.t 3],
  (.seq (.reg [o 3 (.mov (.c .nils))])
  (.seq (.reg [o 5 (.load false 1 (.t 0)), o 6 (.call (.t 5) []), o 4 (.mov (.t 6))])
  (.seq (.seq (.reg [o 7 (.mov (.t 4)), o 8 (.len .sl (.t 7)), o 9 (.eq .int (.t 8) (ci 0)), o 10 (.mov (.t 9)), gf 10 (some 11) (.faddr 0 (.t 1)), gf 10 (some 12) (.faddr 0 (.t 11)), gf 10 (some 13) (.faddr 0 (.t 12)), gf 10 (some 14) (.faddr 0 (.t 13)), gf 10 (some 15) (.load true 96 (.t 14)), gf 10 (some 16) (.faddr 2 (.t 2)), gf 10 (some 17) (.load false 1 (.t 16)), gf 10 (some 18) (.call (cf fn_handle_Book_Good) [(.t 15), (.t 17)]), gf 10 (some 19) (.un .not (.t 18)), o 20 (.pick (.t 10) (.c (.bool true)) (.t 19))])
  (.cond (.t 20) (.seq (.reg [o 3 (.mov (.c .nils))])
    .ret) .skip))
  (.seq (.seq (.reg [o 21 (.mov (.t 4)), o 22 (.faddr 2 (.t 2)), o 23 (.load false 1 (.t 22)), o 24 (.call (cf fn_slices_Contains_handle_Handle_handle_Handle) [(.t 21), (.t 23)])])
  (.cond (.t 24) (.seq (.reg [o 25 (.mov (.t 4)), o 3 (.mov (.t 25))])
    .ret) .skip))
  (.seq (.reg [o 26 (.mov (.t 4)), o 27 (.faddr 2 (.t 2)), o 28 (.load false 1 (.t 27)), o 29 (.bslice [(.int .u32 0)] 1 [(0, 1, (.t 28))]), o 30 (.append ty_handle_Handle 1 4 (.t 26) (.t 29)), o 3 (.mov (.t 30))])
  .ret)))))⟩

def pf_slices_Contains_handle_Handle_handle_Handle : PF := ⟨9, [.t 4],
  (.seq (.reg [o 4 (.mov (.c (.bool false)))])
  (.seq (.reg [o 5 (.mov (.t 0)), o 6 (.mov (.t 1)), o 7 (.call (cf fn_slices_Index_handle_Handle_handle_Handle) [(.t 5), (.t 6)]), o 8 (.bin .geq (.t 7) (ci 0)), o 4 (.mov (.t 8))])
  .ret))⟩

def pf_plan_Regions_4 : PF := ⟨20, [.t 2],
  (.seq (.reg [o 2 (.mov (.c .nils))])
  (.seq (.reg [o 6 (.faddr 0 (.t 0)), o 7 (.faddr 608 (.t 6)), o 8 (.load true 176 (.t 7)), o 9 (.faddr 2 (.t 1)), o 10 (.load false 1 (.t 9)), o 11 (.call (cf fn_token_Tokens_Get) [(.t 8), (.t 10)]), o 5 (.mov (.t 11)), o 12 (.ext (.t 5) 0), o 13 (.ext (.t 5) 1), o 3 (.alloc [(.int .u32 0), (.int .u8 0), (.int .u8 0), (.bool false), (.int .u32 0)] none), u (.store 5 (.t 3) (.t 12)), o 4 (.mov (.t 13))])
  (.seq (.seq (.reg [o 14 (.mov (.t 4)), o 15 (.ne .int (.t 14) (ci 0))])
  (.cond (.t 15) (.seq (.reg [o 2 (.mov (.c .nils))])
    .ret) .skip))
  (.seq (.reg [o 16 (.load true 952 (.t 0)), o 17 (.faddr 0 (.t 3)), o 18 (.load false 1 (.t 17)), o 19 (.call (cf fn_plan_one) [(.t 16), (.t 18)]), o 2 (.mov (.t 19))])
  .ret))))⟩

def pf_plan_Regions_5 : PF := ⟨11, [.t 3],
  (.seq (.reg [o 3 (.mov (.c .nils))])
  (.seq (.seq (.reg [o 4 (.faddr 4 (.t 0)), o 5 (.load false 1 (.t 4)), o 6 (.eq .int (.t 5) (.c (.int .u32 1)))])
  (.cond (.t 6) (.seq (.reg [o 7 (.load false 1 (.t 1)), o 8 (.call (.t 7) []), o 3 (.mov (.t 8))])
    .ret) .skip))
  (.seq (.reg [o 9 (.load false 1 (.t 2)), o 10 (.call (.t 9) []), o 3 (.mov (.t 10))])
  .ret)))⟩

def l1_runs_Runs_Find : PC :=
  (.block 1 (.seq (.reg [o 12 (.load false 1 (.t 3)), o 13 (.bin .geq (.t 12) (ci 1)), o 14 (.mov (.t 13)), gt 14 (some 15) (.faddr 1 (.t 7)), gt 14 (some 16) (.load false 1 (.t 15)), gt 14 (some 17) (.load false 1 (.t 3)), gt 14 (some 18) (.bin .geq (.t 16) (.t 17)), o 19 (.pick (.t 14) (.t 18) (.c (.bool false)))])
    (.cond (.t 19) (.seq (.reg [o 20 (.faddr 0 (.t 7)), o 21 (.load false 1 (.t 20)), u (.store 1 (.t 4) (.t 21)), u (.store 1 (.t 5) (.c (.bool true)))])
      .ret) .skip)))
def pf_runs_Runs_Find : PF := ⟨22, [.cell 4 false 1, .cell 5 false 1],
  (.seq (.reg [o 2 (.box (.t 0)), o 3 (.box (.t 1)), o 4 (.alloc [(.int .i64 0)] none), o 5 (.alloc [(.bool false)] none)])
  (.seq (.seq (.reg [o 8 (.load true 1 (.t 2)), o 9 (.call (cf fn_runs_Runs_each) [(.t 8)])])
  (.block 0 (.rfun (.t 9) [10, 11] (.reg [o 7 (.alloc [(.int .i64 0), (.int .i64 0)] none), u (.store 2 (.t 7) (.t 11))]) l1_runs_Runs_Find)))
  (.seq (.reg [u (.store 1 (.t 4) (ci 0)), u (.store 1 (.t 5) (.c (.bool false)))])
  .ret)))⟩

def pf_runs_Runs_Take : PF := ⟨78, [.cell 6 true 1, .t 7],
  (.seq (.reg [o 3 (.box (.t 0)), o 6 (.alloc [.nils] none), o 7 (.mov (.c (.bool false)))])
  (.seq (.reg [o 13 (.mov (.t 1)), o 14 (.mov (.t 2)), o 15 (.build [(.int .i64 0), (.int .i64 0)] [(0, 1, (.t 13)), (1, 1, (.t 14))]), o 8 (.alloc [(.int .i64 0), (.int .i64 0)] none), u (.store 2 (.t 8) (.t 15))])
  (.seq (.seq (.reg [o 16 (.load true 2 (.t 8)), o 17 (.call (cf fn_runs_Run_may) [(.t 16)]), o 18 (.un .not (.t 17))])
  (.cond (.t 18) (.seq (.reg [o 19 (.load true 1 (.t 3)), u (.store 1 (.t 6) (.t 19)), o 7 (.mov (.c (.bool false)))])
    .ret) .skip))
  (.seq (.reg [o 20 (.mkf (.func fn_runs_Runs_Take_1) [] [(.t 8)]), o 9 (.mov (.t 20))])
  (.seq (.reg [o 21 (.faddr 0 (.t 3)), o 22 (.load false 1 (.t 21)), o 23 (.mov (.t 9)), o 24 (.call (cf fn_slices_IndexFunc_runs_Run_runs_Run) [(.t 22), (.t 23)]), o 10 (.mov (.t 24))])
  (.seq (.seq (.reg [o 25 (.mov (.t 10)), o 26 (.bin .lss (.t 25) (ci 0))])
  (.cond (.t 26) (.seq (.reg [o 27 (.load true 1 (.t 3)), u (.store 1 (.t 6) (.t 27)), o 7 (.mov (.c (.bool false)))])
    .ret) .skip))
  (.seq (.reg [o 28 (.faddr 0 (.t 3)), o 29 (.load false 1 (.t 28)), o 30 (.mov (.t 10)), o 31 (.iaddrs 2 (.t 29) (.t 30)), o 32 (.load true 2 (.t 31)), o 11 (.alloc [(.int .i64 0), (.int .i64 0)] none), u (.store 2 (.t 11) (.t 32))])
  (.seq (.reg [o 12 (.mov (.c .nils))])
  (.seq (.seq (.reg [o 33 (.faddr 0 (.t 8)), o 34 (.load false 1 (.t 33)), o 35 (.faddr 0 (.t 11)), o 36 (.load false 1 (.t 35)), o 37 (.bin .gtr (.t 34) (.t 36))])
  (.cond (.t 37) (.reg [o 38 (.mov (.t 12)), o 39 (.faddr 0 (.t 11)), o 40 (.load false 1 (.t 39)), o 41 (.faddr 0 (.t 8)), o 42 (.load false 1 (.t 41)), o 43 (.faddr 0 (.t 11)), o 44 (.load false 1 (.t 43)), o 45 (.bin .sub (.t 42) (.t 44)), o 46 (.build [(.int .i64 0), (.int .i64 0)] [(0, 1, (.t 40)), (1, 1, (.t 45))]), o 47 (.bslice [(.int .i64 0), (.int .i64 0)] 1 [(0, 2, (.t 46))]), o 48 (.append ty_runs_Run 2 16 (.t 38) (.t 47)), o 12 (.mov (.t 48))]) .skip))
  (.seq (.seq (.dreg [(o 49 (.load true 2 (.t 8)), []), (o 50 (.call (cf fn_runs_Run_end) [(.t 49)]), []), (o 51 (.load true 2 (.t 11)), [0, 1]), (o 52 (.call (cf fn_runs_Run_end) [(.t 51)]), []), (o 53 (.bin .lss (.t 50) (.t 52)), [])])
  (.cond (.t 53) (.dreg [(o 54 (.mov (.t 12)), []), (o 55 (.load true 2 (.t 8)), []), (o 56 (.call (cf fn_runs_Run_end) [(.t 55)]), []), (o 57 (.load true 2 (.t 11)), [1, 2]), (o 58 (.call (cf fn_runs_Run_end) [(.t 57)]), []), (o 59 (.load true 2 (.t 8)), [1, 2, 3, 4]), (o 60 (.call (cf fn_runs_Run_end) [(.t 59)]), []), (o 61 (.bin .sub (.t 58) (.t 60)), []), (o 62 (.build [(.int .i64 0), (.int .i64 0)] [(0, 1, (.t 56)), (1, 1, (.t 61))]), []), (o 63 (.bslice [(.int .i64 0), (.int .i64 0)] 1 [(0, 2, (.t 62))]), []), (o 64 (.append ty_runs_Run 2 16 (.t 54) (.t 63)), []), (o 12 (.mov (.t 64)), [])]) .skip))
  (.seq (.dreg [(o 65 (.faddr 0 (.t 3)), []), (o 66 (.load false 1 (.t 65)), []), (o 67 (.mov (.t 10)), []), (o 68 (.slsl 2 (.t 66) none (some (.t 67)) none), []), (o 69 (.mov (.t 12)), []), (o 70 (.faddr 0 (.t 3)), []), (o 71 (.load false 1 (.t 70)), [1]), (o 72 (.mov (.t 10)), []), (o 73 (.bin .add (.t 72) (ci 1)), []), (o 74 (.slsl 2 (.t 71) (some (.t 73)) none none), []), (o 75 (.bslice [.nils] 3 [(0, 1, (.t 68)), (1, 1, (.t 69)), (2, 1, (.t 74))]), []), (o 76 (.call (cf fn_slices_Concat_runs_Run_runs_Run) [(.t 75)]), []), (o 77 (.build [.nils] [(0, 1, (.t 76))]), []), (u (.store 1 (.t 6) (.t 77)), []), (o 7 (.mov (.c (.bool true))), [])])
  .ret)))))))))))⟩

def pf_Ppool_Pool_Clear_1 : PF := ⟨5, [],
  (.reg [o 2 (.mov (.t 0)), o 3 (.nilck (.t 2)), o 4 (.slarr 32 1 (.t 3) none none), u (.clear [(.int .u8 0)] (.t 4))])⟩

def pf_slices_Clip_int_int : PF := ⟨9, [.t 2],
  (.seq (.reg [o 2 (.mov (.c .nils))])
  (.seq (.reg [o 3 (.mov (.t 0)), o 4 (.mov (.t 0)), o 5 (.len .sl (.t 4)), o 6 (.mov (.t 0)), o 7 (.len .sl (.t 6)), o 8 (.slsl 1 (.t 3) none (some (.t 5)) (some (.t 7))), o 2 (.mov (.t 8))])
  .ret))⟩

def pf_Ppool_Pool_Write_1 : PF := ⟨6, [],
  (.reg [o 3 (.mov (.t 0)), o 4 (.load false 1 (.t 1)), o 5 (.nilck (.t 3)), u (.store 1 (.t 5) (.t 4))])⟩

def l1_slices_Index_uint8_uint8 : PC :=
  (.seq (.reg [o 9 (.bin .lss (.t 8) (.t 7))])
  (.seq (.cond (.t 9) .skip (.exit 0))
  (.seq (.block 1 (.seq (.reg [o 10 (.mov (.t 8)), o 5 (.mov (.t 10))])
    (.seq (.reg [o 11 (.mov (.t 1)), o 12 (.mov (.t 0)), o 13 (.mov (.t 5)), o 14 (.iaddrs 1 (.t 12) (.t 13)), o 15 (.load false 1 (.t 14)), o 16 (.eq .int (.t 11) (.t 15))])
    (.cond (.t 16) (.seq (.reg [o 17 (.mov (.t 5)), o 4 (.mov (.t 17))])
      .ret) .skip))))
  (.reg [o 18 (.bin .add (.t 8) (ci 1)), o 8 (.mov (.t 18))]))))
def pf_slices_Index_uint8_uint8 : PF := ⟨19, [.t 4],
  (.seq (.reg [o 4 (.mov (ci 0))])
  (.seq (.seq (.reg [o 6 (.mov (.t 0)), o 7 (.len .sl (.t 6)), o 8 (.mov (ci 0))])
  (.block 0 (.loop l1_slices_Index_uint8_uint8)))
  (.seq (.reg [o 4 (.mov (ci (-1)))])
  .ret)))⟩

def pf_slices_Collect_handle_Handle : PF := ⟨5, [.t 2],
  (.seq (.reg [o 2 (.mov (.c .nils))])
  (.seq (.reg [o 3 (.mov (.t 0)), o 4 (.call (cf fn_slices_AppendSeq_handle_Handle_handle_Handle) [(.c .nils), (.t 3)]), o 2 (.mov (.t 4))])
  .ret))⟩

def pf_forest_under : PF := ⟨6, [.t 4],
  (.seq (.reg [o 2 (.box (.t 0)), o 3 (.box (.t 1)), o 4 (.mov (.c .nilf))])
  (.seq (.reg [o 5 (.mkf (.func fn_forest_under_1) [] [(.t 3), (.t 2)]), o 4 (.mov (.t 5))])
  .ret))⟩

def l1_slices_Index_handle_Handle_handle_Handle : PC :=
  (.seq (.reg [o 9 (.bin .lss (.t 8) (.t 7))])
  (.seq (.cond (.t 9) .skip (.exit 0))
  (.seq (.block 1 (.seq (.reg [o 10 (.mov (.t 8)), o 5 (.mov (.t 10))])
    (.seq (.reg [o 11 (.mov (.t 1)), o 12 (.mov (.t 0)), o 13 (.mov (.t 5)), o 14 (.iaddrs 1 (.t 12) (.t 13)), o 15 (.load false 1 (.t 14)), o 16 (.eq .int (.t 11) (.t 15))])
    (.cond (.t 16) (.seq (.reg [o 17 (.mov (.t 5)), o 4 (.mov (.t 17))])
      .ret) .skip))))
  (.reg [o 18 (.bin .add (.t 8) (ci 1)), o 8 (.mov (.t 18))]))))
def pf_slices_Index_handle_Handle_handle_Handle : PF := ⟨19, [.t 4],
  (.seq (.reg [o 4 (.mov (ci 0))])
  (.seq (.seq (.reg [o 6 (.mov (.t 0)), o 7 (.len .sl (.t 6)), o 8 (.mov (ci 0))])
  (.block 0 (.loop l1_slices_Index_handle_Handle_handle_Handle)))
  (.seq (.reg [o 4 (.mov (ci (-1)))])
  .ret)))⟩

def pf_runs_Runs_Take_1 : PF := ⟨7, [.t 3],
  (.seq (.reg [o 2 (.box (.t 0)), o 3 (.mov (.c (.bool false)))])
  (.seq (.reg [o 4 (.load true 2 (.t 2)), o 5 (.load true 2 (.t 1)), o 6 (.call (cf fn_runs_Run_holds) [(.t 4), (.t 5)]), o 3 (.mov (.t 6))])
  .ret))⟩

def l2_slices_Concat_runs_Run_runs_Run : PC :=
  (.seq (.reg [o 28 (.bin .lss (.t 27) (.t 26))])
  (.seq (.cond (.t 28) .skip (.exit 2))
  (.seq (.block 3 (.seq (.reg [o 29 (.iaddrs 1 (.t 25) (.t 27)), o 30 (.load false 1 (.t 29)), o 8 (.mov (.t 30))])
    (.reg [o 31 (.mov (.t 6)), o 32 (.mov (.t 8)), o 33 (.append ty_runs_Run 2 16 (.t 31) (.t 32)), o 6 (.mov (.t 33))])))
  (.reg [o 34 (.bin .add (.t 27) (ci 1)), o 27 (.mov (.t 34))]))))
def l1_slices_Concat_runs_Run_runs_Run : PC :=
  (.seq (.reg [o 12 (.bin .lss (.t 11) (.t 10))])
  (.seq (.cond (.t 12) .skip (.exit 0))
  (.seq (.block 1 (.seq (.reg [o 13 (.iaddrs 1 (.t 9) (.t 11)), o 14 (.load false 1 (.t 13)), o 5 (.mov (.t 14))])
    (.seq (.reg [o 15 (.mov (.t 3)), o 16 (.mov (.t 5)), o 17 (.len .sl (.t 16)), o 18 (.bin .add (.t 15) (.t 17)), o 3 (.mov (.t 18))])
    (.seq (.reg [o 19 (.mov (.t 3)), o 20 (.bin .lss (.t 19) (ci 0))])
    (.cond (.t 20) (.reg [o 21 (.mki ty_string (.c (S [108, 101, 110, 32, 111, 117, 116, 32, 111, 102, 32, 114, 97, 110, 103, 101]))), u (.panic (.t 21))]) .skip)))))
  (.reg [o 22 (.bin .add (.t 11) (ci 1)), o 11 (.mov (.t 22))]))))
def pf_slices_Concat_runs_Run_runs_Run : PF := ⟨36, [.t 2],
  (.seq (.reg [o 2 (.mov (.c .nils))])
  (.seq (.reg [o 3 (.mov (ci 0))])
  (.seq (.seq (.reg [o 9 (.mov (.t 0)), o 10 (.len .sl (.t 9)), o 11 (.mov (ci 0))])
  (.block 0 (.loop l1_slices_Concat_runs_Run_runs_Run)))
  (.seq (.reg [o 23 (.mov (.t 3)), o 24 (.call (cf fn_slices_Grow_runs_Run_runs_Run) [(.c .nils), (.t 23)]), o 6 (.mov (.t 24))])
  (.seq (.seq (.reg [o 25 (.mov (.t 0)), o 26 (.len .sl (.t 25)), o 27 (.mov (ci 0))])
  (.block 2 (.loop l2_slices_Concat_runs_Run_runs_Run)))
  (.seq (.reg [o 35 (.mov (.t 6)), o 2 (.mov (.t 35))])
  .ret))))))⟩

def l1_slices_AppendSeq_handle_Handle_handle_Handle : PC :=
  (.block 1 (.reg [o 8 (.load false 1 (.t 2)), o 9 (.mov (.t 5)), o 10 (.bslice [(.int .u32 0)] 1 [(0, 1, (.t 9))]), o 11 (.append ty_handle_Handle 1 4 (.t 8) (.t 10)), u (.store 1 (.t 2) (.t 11))]))
def pf_slices_AppendSeq_handle_Handle_handle_Handle : PF := ⟨13, [.t 4],
  (.seq (.reg [o 2 (.box (.t 0)), o 4 (.mov (.c .nils))])
  (.seq (.seq (.reg [o 6 (.mov (.t 1))])
  (.block 0 (.rfun (.t 6) [7] (.reg [o 5 (.mov (.t 7))]) l1_slices_AppendSeq_handle_Handle_handle_Handle)))
  (.seq (.reg [o 12 (.load false 1 (.t 2)), o 4 (.mov (.t 12))])
  .ret)))⟩

def l1_forest_under_1 : PC :=
  (.seq (.seq (.reg [o 9 (.mov (.t 4)), o 10 (.len .sl (.t 9)), o 11 (.bin .gtr (.t 10) (ci 0))])
  (.cond (.t 11) .skip (.exit 0)))
  (.block 1 (.seq (.reg [o 12 (.mov (.t 4)), o 13 (.mov (.t 4)), o 14 (.len .sl (.t 13)), o 15 (.bin .sub (.t 14) (ci 1)), o 16 (.iaddrs 1 (.t 12) (.t 15)), o 17 (.load false 1 (.t 16)), o 5 (.mov (.t 17))])
    (.seq (.seq (.reg [o 18 (.mov (.t 0)), o 19 (.mov (.t 5)), o 20 (.call (.t 18) [(.t 19)]), o 21 (.un .not (.t 20))])
    (.cond (.t 21) .ret .skip))
    (.seq (.reg [o 22 (.load true 480 (.t 2)), o 23 (.mov (.t 5)), o 24 (.call (cf fn_forest_Kids) [(.t 22), (.t 23)]), o 6 (.mov (.t 24))])
    (.seq (.reg [o 25 (.mov (.t 6)), o 26 (.call (cf fn_slices_Reverse_handle_Handle_handle_Handle) [(.t 25)])])
    (.reg [o 27 (.mov (.t 4)), o 28 (.mov (.t 4)), o 29 (.len .sl (.t 28)), o 30 (.bin .sub (.t 29) (ci 1)), o 31 (.slsl 1 (.t 27) none (some (.t 30)) none), o 32 (.mov (.t 6)), o 33 (.append ty_handle_Handle 1 4 (.t 31) (.t 32)), o 4 (.mov (.t 33))])))))))
def pf_forest_under_1 : PF := ⟨34, [],
  (.seq (.reg [o 7 (.load false 1 (.t 1)), o 8 (.bslice [(.int .u32 0)] 1 [(0, 1, (.t 7))]), o 4 (.mov (.t 8))])
  (.block 0 (.loop l1_forest_under_1)))⟩

def pf_forest_Kids : PF := ⟨16, [.t 4],
  (.seq (.reg [o 2 (.box (.t 0)), o 3 (.box (.t 1)), o 4 (.mov (.c .nils))])
  (.seq (.seq (.reg [o 5 (.faddr 0 (.t 2)), o 6 (.faddr 0 (.t 5)), o 7 (.load true 96 (.t 6)), o 8 (.load false 1 (.t 3)), o 9 (.call (cf fn_handle_Book_Good) [(.t 7), (.t 8)]), o 10 (.un .not (.t 9))])
  (.cond (.t 10) (.seq (.reg [o 4 (.mov (.c .nils))])
    .ret) .skip))
  (.seq (.reg [o 11 (.faddr 0 (.t 2)), o 12 (.load true 96 (.t 11)), o 13 (.call (cf fn_table_book_All) [(.t 12)]), o 14 (.mkf (.func fn_forest_Kids_1) [] [(.t 2), (.t 3)]), o 15 (.call (cf fn_slices_DeleteFunc_handle_Handle_handle_Handle) [(.t 13), (.t 14)]), o 4 (.mov (.t 15))])
  .ret)))⟩

def l1_slices_Reverse_handle_Handle_handle_Handle : PC :=
  (.seq (.seq (.reg [o 7 (.mov (.t 2)), o 8 (.mov (.t 3)), o 9 (.bin .lss (.t 7) (.t 8))])
  (.cond (.t 9) .skip (.exit 0)))
  (.seq (.block 1 (.dreg [(o 14 (.mov (.t 0)), []), (o 15 (.mov (.t 2)), []), (o 16 (.mov (.t 0)), []), (o 17 (.mov (.t 3)), []), (o 18 (.mov (.t 0)), []), (o 19 (.mov (.t 3)), []), (o 20 (.iaddrs 1 (.t 18) (.t 19)), []), (o 21 (.load false 1 (.t 20)), []), (o 22 (.mov (.t 0)), []), (o 23 (.mov (.t 2)), []), (o 24 (.iaddrs 1 (.t 22) (.t 23)), []), (o 25 (.load false 1 (.t 24)), [7]), (o 26 (.iaddrs 1 (.t 14) (.t 15)), []), (u (.store 1 (.t 26) (.t 21)), []), (o 27 (.iaddrs 1 (.t 16) (.t 17)), []), (u (.store 1 (.t 27) (.t 25)), [])]))
  (.reg [o 10 (.mov (.t 2)), o 11 (.bin .add (.t 10) (ci 1)), o 12 (.mov (.t 3)), o 13 (.bin .sub (.t 12) (ci 1)), o 2 (.mov (.t 11)), o 3 (.mov (.t 13))])))
def pf_slices_Reverse_handle_Handle_handle_Handle : PF := ⟨28, [],
  (.seq (.reg [o 4 (.mov (.t 0)), o 5 (.len .sl (.t 4)), o 6 (.bin .sub (.t 5) (ci 1)), o 2 (.mov (ci 0)), o 3 (.mov (.t 6))])
  (.block 0 (.loop l1_slices_Reverse_handle_Handle_handle_Handle)))⟩

def l1_slices_DeleteFunc_handle_Handle_handle_Handle : PC :=
  (.seq (.seq (.reg [o 16 (.mov (.t 6)), o 17 (.mov (.t 0)), o 18 (.len .sl (.t 17)), o 19 (.bin .lss (.t 16) (.t 18))])
  (.cond (.t 19) .skip (.exit 0)))
  (.seq (.block 1 (.seq (.reg [o 22 (.mov (.t 0)), o 23 (.mov (.t 6)), o 24 (.iaddrs 1 (.t 22) (.t 23)), o 25 (.load false 1 (.t 24)), o 7 (.mov (.t 25))])
    (.seq (.reg [o 26 (.mov (.t 1)), o 27 (.mov (.t 7)), o 28 (.call (.t 26) [(.t 27)]), o 29 (.un .not (.t 28))])
    (.cond (.t 29) (.seq (.reg [o 30 (.mov (.t 0)), o 31 (.mov (.t 5)), o 32 (.mov (.t 7)), o 33 (.iaddrs 1 (.t 30) (.t 31)), u (.store 1 (.t 33) (.t 32))])
      (.reg [o 34 (.mov (.t 5)), o 35 (.bin .add (.t 34) (ci 1)), o 5 (.mov (.t 35))])) .skip))))
  (.reg [o 20 (.mov (.t 6)), o 21 (.bin .add (.t 20) (ci 1)), o 6 (.mov (.t 21))])))
def pf_slices_DeleteFunc_handle_Handle_handle_Handle : PF := ⟨42, [.t 4],
  (.seq (.reg [o 4 (.mov (.c .nils))])
  (.seq (.reg [o 8 (.mov (.t 0)), o 9 (.mov (.t 1)), o 10 (.call (cf fn_slices_IndexFunc_handle_Handle_handle_Handle) [(.t 8), (.t 9)]), o 5 (.mov (.t 10))])
  (.seq (.seq (.reg [o 11 (.mov (.t 5)), o 12 (.eq .int (.t 11) (ci (-1)))])
  (.cond (.t 12) (.seq (.reg [o 13 (.mov (.t 0)), o 4 (.mov (.t 13))])
    .ret) .skip))
  (.seq (.seq (.reg [o 14 (.mov (.t 5)), o 15 (.bin .add (.t 14) (ci 1)), o 6 (.mov (.t 15))])
  (.block 0 (.loop l1_slices_DeleteFunc_handle_Handle_handle_Handle)))
  (.seq (.reg [o 36 (.mov (.t 0)), o 37 (.mov (.t 5)), o 38 (.slsl 1 (.t 36) (some (.t 37)) none none), u (.clear [(.int .u32 0)] (.t 38))])
  (.seq (.reg [o 39 (.mov (.t 0)), o 40 (.mov (.t 5)), o 41 (.slsl 1 (.t 39) none (some (.t 40)) none), o 4 (.mov (.t 41))])
  .ret))))))⟩

def pf_forest_Kids_1 : PF := ⟨17, [.t 4],
  (.seq (.reg [o 4 (.mov (.c (.bool false)))])
  (.seq (.reg [o 8 (.load true 480 (.t 1)), o 9 (.mov (.t 0)), o 10 (.call (cf fn_table_Table_Get) [(.t 8), (.t 9)]), o 7 (.mov (.t 10)), o 11 (.ext (.t 7) 0), o 12 (.ext (.t 7) 1), o 5 (.alloc [(.int .u32 0), (.int .i64 0), .nils, (.int .i64 0), (.int .u32 0), (.int .u32 0), (.int .u32 0), (.int .u32 0), (.int .u32 0), (.int .u32 0), (.int .u32 0), (.int .u32 0)] none), u (.store 12 (.t 5) (.t 11)), o 6 (.mov (.t 12))])
  (.seq (.reg [o 13 (.faddr 0 (.t 5)), o 14 (.load false 1 (.t 13)), o 15 (.load false 1 (.t 2)), o 16 (.ne .int (.t 14) (.t 15)), o 4 (.mov (.t 16))])
  .ret)))⟩

def l1_slices_IndexFunc_handle_Handle_handle_Handle : PC :=
  (.seq (.reg [o 9 (.bin .lss (.t 8) (.t 7))])
  (.seq (.cond (.t 9) .skip (.exit 0))
  (.seq (.block 1 (.seq (.reg [o 10 (.mov (.t 8)), o 5 (.mov (.t 10))])
    (.seq (.reg [o 11 (.mov (.t 1)), o 12 (.mov (.t 0)), o 13 (.mov (.t 5)), o 14 (.iaddrs 1 (.t 12) (.t 13)), o 15 (.load false 1 (.t 14)), o 16 (.call (.t 11) [(.t 15)])])
    (.cond (.t 16) (.seq (.reg [o 17 (.mov (.t 5)), o 4 (.mov (.t 17))])
      .ret) .skip))))
  (.reg [o 18 (.bin .add (.t 8) (ci 1)), o 8 (.mov (.t 18))]))))
def pf_slices_IndexFunc_handle_Handle_handle_Handle : PF := ⟨19, [.t 4],
  (.seq (.reg [o 4 (.mov (ci 0))])
  (.seq (.seq (.reg [o 6 (.mov (.t 0)), o 7 (.len .sl (.t 6)), o 8 (.mov (ci 0))])
  (.block 0 (.loop l1_slices_IndexFunc_handle_Handle_handle_Handle)))
  (.seq (.reg [o 4 (.mov (ci (-1)))])
  .ret)))⟩

def pf_own_Owns_Held : PF := ⟨11, [.t 6],
  (.seq (.reg [o 3 (.box (.t 0)), o 4 (.box (.t 1)), o 5 (.box (.t 2)), o 6 (.mov (.c .nils))])
  (.seq (.reg [o 7 (.load true 128 (.t 3)), o 8 (.load true 480 (.t 4)), o 9 (.mkf (.func fn_own_Owns_Held_1) [] [(.t 5)]), o 10 (.call (cf fn_own_Owns_those) [(.t 7), (.t 8), (.t 9)]), o 6 (.mov (.t 10))])
  .ret))⟩

def l4_Pmodel_caller_dies : PC :=
  (.seq (.reg [o 143 (.bin .lss (.t 142) (.t 141))])
  (.seq (.cond (.t 143) .skip (.exit 7))
  (.seq (.block 8 (.seq (.reg [o 144 (.iaddrs 1 (.t 140) (.t 142)), o 145 (.load false 1 (.t 144)), o 13 (.mov (.t 145))])
    (.reg [o 146 (.mov (.t 0)), o 147 (.mov (.t 13)), o 148 (.mov (.t 1)), o 149 (.call (cf fn_Pmodel_caller_drops) [(.t 146), (.t 147), (.t 148)])])))
  (.reg [o 150 (.bin .add (.t 142) (ci 1)), o 142 (.mov (.t 150))]))))
def l3_Pmodel_caller_dies : PC :=
  (.seq (.reg [o 120 (.bin .lss (.t 119) (.t 118))])
  (.seq (.cond (.t 120) .skip (.exit 5))
  (.seq (.block 6 (.seq (.reg [o 121 (.iaddrs 1 (.t 117) (.t 119)), o 122 (.load false 1 (.t 121)), o 11 (.mov (.t 122))])
    (.reg [o 123 (.mov (.t 0)), o 124 (.mov (.t 11)), o 125 (.call (cf fn_Pmodel_caller_gone) [(.t 123), (.t 124)])])))
  (.reg [o 126 (.bin .add (.t 119) (ci 1)), o 119 (.mov (.t 126))]))))
def l2_Pmodel_caller_dies : PC :=
  (.seq (.reg [o 83 (.bin .lss (.t 82) (.t 81))])
  (.seq (.cond (.t 83) .skip (.exit 3))
  (.seq (.block 4 (.seq (.reg [o 84 (.iaddrs 1 (.t 80) (.t 82)), o 85 (.load false 1 (.t 84)), o 9 (.mov (.t 85))])
    (.reg [o 87 (.mov (.t 0)), o 88 (.mov (.t 0)), o 89 (.nilck (.t 88)), o 90 (.faddr 0 (.t 89)), o 91 (.faddr 0 (.t 90)), o 92 (.faddr 608 (.t 91)), o 93 (.load true 176 (.t 92)), o 94 (.mov (.t 9)), o 95 (.call (cf fn_token_Tokens_Return) [(.t 93), (.t 94)]), o 86 (.mov (.t 95)), o 96 (.ext (.t 86) 0), o 97 (.ext (.t 86) 1), o 98 (.ext (.t 86) 2), o 99 (.nilck (.t 87)), o 100 (.faddr 0 (.t 99)), o 101 (.faddr 0 (.t 100)), o 102 (.faddr 608 (.t 101)), u (.store 176 (.t 102) (.t 96))])))
  (.reg [o 103 (.bin .add (.t 82) (ci 1)), o 82 (.mov (.t 103))]))))
def l1_Pmodel_caller_dies : PC :=
  (.seq (.reg [o 41 (.bin .lss (.t 40) (.t 39))])
  (.seq (.cond (.t 41) .skip (.exit 0))
  (.seq (.block 1 (.seq (.reg [o 42 (.iaddrs 4 (.t 38) (.t 40)), o 43 (.load true 4 (.t 42)), o 7 (.alloc [(.int .u8 0), (.int .u64 0), (.int .u32 0), (.bool false)] none), u (.store 4 (.t 7) (.t 43))])
    (.block 2 (.seq (.reg [o 49 (.faddr 2 (.t 7)), o 50 (.load false 1 (.t 49)), o 51 (.eq .int (.t 50) (.c (.int .u32 0))), o 52 (.mov (.t 51)), gf 52 (some 53) (.faddr 3 (.t 7)), gf 52 (some 54) (.load false 1 (.t 53)), o 55 (.pick (.t 52) (.c (.bool true)) (.t 54)), o 48 (.mov (.t 55))])
      (.cond (.t 48) .skip (.seq (.dreg [(o 57 (.mov (.t 0)), []), (o 58 (.faddr 0 (.t 7)), []), (o 59 (.load false 1 (.t 58)), []), (o 60 (.nilck (.t 57)), []), (o 61 (.faddr 0 (.t 60)), []), (o 62 (.faddr 936 (.t 61)), []), (o 63 (.iaddra 8 1 (.t 62) (.t 59)), []), (o 64 (.load false 1 (.t 63)), []), (o 56 (.mov (.t 64)), [])])
        (.cond (.t 56) (.reg [o 65 (.mov (.t 0)), o 66 (.faddr 2 (.t 7)), o 67 (.load false 1 (.t 66)), o 68 (.faddr 0 (.t 7)), o 69 (.load false 1 (.t 68)), o 70 (.conv .i64 (.t 69)), o 71 (.call (cf fn_Pmodel_caller_owns) [(.t 65), (.t 67), (.t 70)])]) (.reg [o 44 (.mov (.t 0)), o 45 (.faddr 2 (.t 7)), o 46 (.load false 1 (.t 45)), o 47 (.call (cf fn_Pmodel_caller_gone) [(.t 44), (.t 46)])]))))))))
  (.reg [o 72 (.bin .add (.t 40) (ci 1)), o 40 (.mov (.t 72))]))))
def pf_Pmodel_caller_dies : PF := ⟨151, [],
  (.seq (.reg [o 15 (.mov (.t 0)), o 16 (.mov (.t 1)), o 17 (.nilck (.t 15)), o 18 (.faddr 0 (.t 17)), o 19 (.faddr 784 (.t 18)), o 20 (.iaddra 8 19 (.t 19) (.t 16)), o 21 (.load true 19 (.t 20)), o 22 (.call (cf fn_mail_Box_Drain) [(.t 21)]), o 14 (.mov (.t 22)), o 23 (.ext (.t 14) 0), o 24 (.ext (.t 14) 1), o 4 (.alloc [(.int .u8 0), (.int .u64 0), (.int .u32 0), (.bool false), (.int .u8 0), (.int .u64 0), (.int .u32 0), (.bool false), (.int .u8 0), (.int .u64 0), (.int .u32 0), (.bool false), (.int .u8 0), (.int .u64 0), (.int .u32 0), (.bool false), (.int .i64 0), (.int .i64 0), (.bool false)] none), u (.store 19 (.t 4) (.t 23)), o 5 (.mov (.t 24))])
  (.seq (.dreg [(o 25 (.mov (.t 0)), []), (o 26 (.mov (.t 1)), []), (o 27 (.load true 19 (.t 4)), []), (o 28 (.nilck (.t 25)), []), (o 29 (.faddr 0 (.t 28)), []), (o 30 (.faddr 784 (.t 29)), []), (o 31 (.iaddra 8 19 (.t 30) (.t 26)), []), (u (.store 19 (.t 31) (.t 27)), [])])
  (.seq (.reg [o 32 (.mov (.t 0)), o 33 (.mov (.t 1)), o 34 (.nilck (.t 32)), o 35 (.faddr 0 (.t 34)), o 36 (.faddr 936 (.t 35)), o 37 (.iaddra 8 1 (.t 36) (.t 33)), u (.store 1 (.t 37) (.c (.bool false)))])
  (.seq (.seq (.reg [o 38 (.mov (.t 5)), o 39 (.len .sl (.t 38)), o 40 (.mov (ci 0))])
  (.block 0 (.loop l1_Pmodel_caller_dies)))
  (.seq (.seq (.reg [o 73 (.mov (.t 0)), o 74 (.nilck (.t 73)), o 75 (.faddr 0 (.t 74)), o 76 (.faddr 0 (.t 75)), o 77 (.faddr 608 (.t 76)), o 78 (.load true 176 (.t 77)), o 79 (.mov (.t 1)), o 80 (.call (cf fn_token_Tokens_Of) [(.t 78), (.t 79)]), o 81 (.len .sl (.t 80)), o 82 (.mov (ci 0))])
  (.block 3 (.loop l2_Pmodel_caller_dies)))
  (.seq (.seq (.dreg [(o 104 (.mov (.t 0)), []), (o 105 (.nilck (.t 104)), []), (o 106 (.faddr 0 (.t 105)), []), (o 107 (.faddr 0 (.t 106)), []), (o 108 (.faddr 480 (.t 107)), []), (o 109 (.load true 128 (.t 108)), []), (o 110 (.mov (.t 0)), []), (o 111 (.nilck (.t 110)), []), (o 112 (.faddr 0 (.t 111)), []), (o 113 (.faddr 0 (.t 112)), []), (o 114 (.faddr 0 (.t 113)), []), (o 115 (.load true 480 (.t 114)), [5]), (o 116 (.mov (.t 1)), []), (o 117 (.call (cf fn_own_Owns_Roots) [(.t 109), (.t 115), (.t 116)]), []), (o 118 (.len .sl (.t 117)), []), (o 119 (.mov (ci 0)), [])])
  (.block 5 (.loop l3_Pmodel_caller_dies)))
  (.seq (.dreg [(o 127 (.mov (.t 0)), []), (o 128 (.nilck (.t 127)), []), (o 129 (.faddr 0 (.t 128)), []), (o 130 (.faddr 0 (.t 129)), []), (o 131 (.faddr 480 (.t 130)), []), (o 132 (.load true 128 (.t 131)), []), (o 133 (.mov (.t 0)), []), (o 134 (.nilck (.t 133)), []), (o 135 (.faddr 0 (.t 134)), []), (o 136 (.faddr 0 (.t 135)), []), (o 137 (.faddr 0 (.t 136)), []), (o 138 (.load true 480 (.t 137)), [5]), (o 139 (.mov (.t 1)), []), (o 140 (.call (cf fn_own_Owns_Held) [(.t 132), (.t 138), (.t 139)]), []), (o 141 (.len .sl (.t 140)), []), (o 142 (.mov (ci 0)), [])])
  (.block 7 (.loop l4_Pmodel_caller_dies)))))))))⟩

def pf_sched_kinds_1 : PF := ⟨14, [.t 4],
  (.seq (.reg [o 2 (.box (.t 0)), o 4 (.mov (.c (.int .u8 0)))])
  (.seq (.reg [o 6 (.mov (.t 1)), o 7 (.mkf (.func fn_sched_kinds_1_1) [] [(.t 2)]), o 8 (.call (cf fn_slices_IndexFunc_uint8_uint8) [(.t 6), (.t 7)]), o 5 (.mov (.t 8))])
  (.seq (.reg [o 9 (.mov (.t 1)), o 10 (.mov (.t 5)), o 11 (.max [(ci 0), (.t 10)]), o 12 (.iaddrs 1 (.t 9) (.t 11)), o 13 (.load false 1 (.t 12)), o 4 (.mov (.t 13))])
  .ret)))⟩

def pf_sched_kinds_1_1 : PF := ⟨10, [.t 3],
  (.seq (.reg [o 3 (.mov (.c (.bool false)))])
  (.seq (.reg [o 4 (.mov (.t 0)), o 5 (.load false 1 (.t 1)), o 6 (.nilck (.t 5)), o 7 (.faddr 4 (.t 6)), o 8 (.load false 1 (.t 7)), o 9 (.bin .geq (.t 4) (.t 8)), o 3 (.mov (.t 9))])
  .ret))⟩

def l1_sched_kinds_2 : PC :=
  (.seq (.reg [o 13 (.bin .lss (.t 12) (.t 11))])
  (.seq (.cond (.t 13) .skip (.exit 0))
  (.seq (.block 1 (.seq (.reg [o 14 (.iaddrs 1 (.t 10) (.t 12)), o 15 (.load false 1 (.t 14)), o 6 (.mov (.t 15))])
    (.seq (.reg [o 16 (.mov (.t 1)), o 17 (.mov (.t 6)), o 18 (.call (cf fn_slices_Contains_uint8_uint8) [(.t 16), (.t 17)])])
    (.cond (.t 18) (.seq (.reg [o 19 (.mov (.t 6)), o 4 (.mov (.t 19))])
      .ret) .skip))))
  (.reg [o 20 (.bin .add (.t 12) (ci 1)), o 12 (.mov (.t 20))]))))
def pf_sched_kinds_2 : PF := ⟨24, [.t 4],
  (.seq (.reg [o 4 (.mov (.c (.int .u8 0)))])
  (.seq (.seq (.reg [o 7 (.mov (.t 0)), o 8 (.nilck (.t 7)), o 9 (.faddr 1 (.t 8)), o 10 (.load false 1 (.t 9)), o 11 (.len .sl (.t 10)), o 12 (.mov (ci 0))])
  (.block 0 (.loop l1_sched_kinds_2)))
  (.seq (.reg [o 21 (.mov (.t 1)), o 22 (.iaddrs 1 (.t 21) (ci 0)), o 23 (.load false 1 (.t 22)), o 4 (.mov (.t 23))])
  .ret)))⟩

def pf_slices_Contains_uint8_uint8 : PF := ⟨9, [.t 4],
  (.seq (.reg [o 4 (.mov (.c (.bool false)))])
  (.seq (.reg [o 5 (.mov (.t 0)), o 6 (.mov (.t 1)), o 7 (.call (cf fn_slices_Index_uint8_uint8) [(.t 5), (.t 6)]), o 8 (.bin .geq (.t 7) (ci 0)), o 4 (.mov (.t 8))])
  .ret))⟩

def pf_sched_kinds_3 : PF := ⟨28, [.t 4],
  (.seq (.reg [o 4 (.mov (.c (.int .u8 0)))])
  (.seq (.reg [o 6 (.mov (.t 1)), o 7 (.mov (.t 0)), o 8 (.nilck (.t 7)), o 9 (.faddr 2 (.t 8)), o 10 (.load false 1 (.t 9)), o 11 (.shf .shr (.t 10) (.c (.int .u64 33))), o 12 (.mov (.t 1)), o 13 (.len .sl (.t 12)), o 14 (.conv .u64 (.t 13)), o 15 (.bin .rem (.t 11) (.t 14)), o 16 (.iaddrs 1 (.t 6) (.t 15)), o 17 (.load false 1 (.t 16)), o 5 (.mov (.t 17))])
  (.seq (.reg [o 18 (.mov (.t 0)), o 19 (.mov (.t 0)), o 20 (.nilck (.t 19)), o 21 (.faddr 2 (.t 20)), o 22 (.load false 1 (.t 21)), o 23 (.bin .mul (.t 22) (.c (.int .u64 6364136223846793005))), o 24 (.bin .add (.t 23) (.c (.int .u64 1))), o 25 (.nilck (.t 18)), o 26 (.faddr 2 (.t 25)), u (.store 1 (.t 26) (.t 24))])
  (.seq (.reg [o 27 (.mov (.t 5)), o 4 (.mov (.t 27))])
  .ret))))⟩

def pf_Pmodel_caller_exit : PF := ⟨10, [.cell 2 true 3],
  (.seq (.reg [o 2 (.alloc [(.int .i64 0), (.int .u64 0), (.int .u32 0)] none)])
  (.seq (.reg [o 3 (.mov (.t 0)), o 4 (.mov (.t 0)), o 5 (.nilck (.t 4)), o 6 (.faddr 952 (.t 5)), o 7 (.load false 1 (.t 6)), o 8 (.call (cf fn_Pmodel_caller_dies) [(.t 3), (.t 7)])])
  (.seq (.reg [o 9 (.build [(.int .i64 0), (.int .u64 0), (.int .u32 0)] []), u (.store 3 (.t 2) (.t 9))])
  .ret)))⟩

def pf_Pmodel_caller_spawn : PF := ⟨46, [.cell 2 true 3],
  (.seq (.reg [o 2 (.alloc [(.int .i64 0), (.int .u64 0), (.int .u32 0)] none)])
  (.seq (.dreg [(o 3 (.mov (.t 0)), []), (o 4 (.nilck (.t 3)), []), (o 5 (.faddr 953 (.t 4)), []), (o 6 (.faddr 3 (.t 5)), []), (o 7 (.load false 1 (.t 6)), []), (o 8 (.bin .lss (.t 7) (.c (.int .u32 8))), []), (o 9 (.mov (.t 8)), []), (gt 9 (some 10) (.mov (.t 0)), []), (gt 9 (some 11) (.mov (.t 0)), []), (gt 9 (some 12) (.nilck (.t 11)), []), (gt 9 (some 13) (.faddr 953 (.t 12)), []), (gt 9 (some 14) (.faddr 3 (.t 13)), []), (gt 9 (some 15) (.load false 1 (.t 14)), []), (gt 9 (some 16) (.bin .rem (.t 15) (.c (.int .u32 8))), []), (gt 9 (some 17) (.nilck (.t 10)), []), (gt 9 (some 18) (.faddr 0 (.t 17)), []), (gt 9 (some 19) (.faddr 944 (.t 18)), []), (gt 9 (some 20) (.iaddra 8 1 (.t 19) (.t 16)), []), (gt 9 (some 21) (.load false 1 (.t 20)), []), (gt 9 (some 22) (.un .not (.t 21)), []), (o 23 (.pick (.t 9) (.t 22) (.c (.bool false))), []), (o 24 (.call (cf fn_model_ask) [(.t 23), (ci 2)]), [])])
  (.seq (.dreg [(o 25 (.mov (.t 0)), []), (o 26 (.mov (.t 0)), []), (o 27 (.nilck (.t 26)), []), (o 28 (.faddr 953 (.t 27)), []), (o 29 (.faddr 3 (.t 28)), []), (o 30 (.load false 1 (.t 29)), []), (o 31 (.mov (.t 0)), []), (o 32 (.mov (.t 0)), []), (o 33 (.nilck (.t 32)), []), (o 34 (.faddr 953 (.t 33)), []), (o 35 (.faddr 3 (.t 34)), []), (o 36 (.load false 1 (.t 35)), [5]), (o 37 (.nilck (.t 25)), []), (o 38 (.faddr 0 (.t 37)), []), (o 39 (.faddr 936 (.t 38)), []), (o 40 (.iaddra 8 1 (.t 39) (.t 30)), []), (u (.store 1 (.t 40) (.c (.bool true))), []), (o 41 (.nilck (.t 31)), []), (o 42 (.faddr 0 (.t 41)), []), (o 43 (.faddr 944 (.t 42)), []), (o 44 (.iaddra 8 1 (.t 43) (.t 36)), []), (u (.store 1 (.t 44) (.c (.bool true))), [])])
  (.seq (.reg [o 45 (.build [(.int .i64 0), (.int .u64 0), (.int .u32 0)] []), u (.store 3 (.t 2) (.t 45))])
  .ret))))⟩

def pf_model_fine : PF := ⟨6, [],
  (.reg [o 2 (.mov (.t 0)), o 3 (.eq .int (.t 2) (ci 0)), o 4 (.mov (.t 0)), o 5 (.call (cf fn_model_ask) [(.t 3), (.t 4)])])⟩

def pf_Pmodel_caller_owns : PF := ⟨34, [],
  (.seq (.dreg [(o 9 (.mov (.t 0)), []), (o 10 (.nilck (.t 9)), []), (o 11 (.faddr 0 (.t 10)), []), (o 12 (.faddr 0 (.t 11)), []), (o 13 (.faddr 480 (.t 12)), []), (o 14 (.load true 128 (.t 13)), []), (o 15 (.mov (.t 0)), []), (o 16 (.nilck (.t 15)), []), (o 17 (.faddr 0 (.t 16)), []), (o 18 (.faddr 0 (.t 17)), []), (o 19 (.faddr 0 (.t 18)), []), (o 20 (.load true 480 (.t 19)), [5]), (o 21 (.mov (.t 1)), []), (o 22 (.mov (.t 2)), []), (o 23 (.call (cf fn_own_Owns_Give) [(.t 14), (.t 20), (.t 21), (.t 22)]), []), (o 8 (.mov (.t 23)), []), (o 24 (.ext (.t 8) 0), []), (o 25 (.ext (.t 8) 1), []), (o 6 (.alloc z128_8087 none), [5, 11, 14]), (u (.store 128 (.t 6) (.t 24)), []), (o 7 (.mov (.t 25)), [])])
  (.seq (.reg [o 26 (.mov (.t 7)), o 27 (.call (cf fn_model_fine) [(.t 26)])])
  (.reg [o 28 (.mov (.t 0)), o 29 (.load true 128 (.t 6)), o 30 (.nilck (.t 28)), o 31 (.faddr 0 (.t 30)), o 32 (.faddr 0 (.t 31)), o 33 (.faddr 480 (.t 32)), u (.store 128 (.t 33) (.t 29))])))⟩

def l1_Pmodel_caller_gone : PC :=
  (.seq (.reg [o 18 (.bin .lss (.t 17) (.t 16))])
  (.seq (.cond (.t 18) .skip (.exit 0))
  (.seq (.block 1 (.seq (.reg [o 19 (.iaddrs 1 (.t 15) (.t 17)), o 20 (.load false 1 (.t 19)), o 5 (.mov (.t 20))])
    (.seq (.reg [o 22 (.mov (.t 0)), o 23 (.nilck (.t 22)), o 24 (.faddr 0 (.t 23)), o 25 (.faddr 0 (.t 24)), o 26 (.faddr 0 (.t 25)), o 27 (.load true 480 (.t 26)), o 28 (.mov (.t 5)), o 29 (.call (cf fn_table_Table_Get) [(.t 27), (.t 28)]), o 21 (.mov (.t 29)), o 30 (.ext (.t 21) 0), o 31 (.ext (.t 21) 1), o 6 (.alloc [(.int .u32 0), (.int .i64 0), .nils, (.int .i64 0), (.int .u32 0), (.int .u32 0), (.int .u32 0), (.int .u32 0), (.int .u32 0), (.int .u32 0), (.int .u32 0), (.int .u32 0)] none), u (.store 12 (.t 6) (.t 30)), o 7 (.mov (.t 31))])
    (.seq (.dreg [(o 32 (.mov (.t 0)), []), (o 33 (.mov (.t 0)), []), (o 34 (.nilck (.t 33)), []), (o 35 (.faddr 963 (.t 34)), []), (o 36 (.load false 1 (.t 35)), []), (o 37 (.faddr 2 (.t 6)), []), (o 38 (.faddr 0 (.t 37)), []), (o 39 (.load false 1 (.t 38)), [4]), (o 40 (.append ty_runs_Run 2 16 (.t 36) (.t 39)), []), (o 41 (.nilck (.t 32)), []), (o 42 (.faddr 963 (.t 41)), []), (u (.store 1 (.t 42) (.t 40)), [])])
    (.reg [o 43 (.mov (.t 0)), o 44 (.mov (.t 0)), o 45 (.nilck (.t 44)), o 46 (.faddr 0 (.t 45)), o 47 (.faddr 0 (.t 46)), o 48 (.faddr 608 (.t 47)), o 49 (.load true 176 (.t 48)), o 50 (.mov (.t 5)), o 51 (.call (cf fn_token_Tokens_Clear) [(.t 49), (.t 50)]), o 52 (.nilck (.t 43)), o 53 (.faddr 0 (.t 52)), o 54 (.faddr 0 (.t 53)), o 55 (.faddr 608 (.t 54)), u (.store 176 (.t 55) (.t 51))])))))
  (.reg [o 56 (.bin .add (.t 17) (ci 1)), o 17 (.mov (.t 56))]))))
def pf_Pmodel_caller_gone : PF := ⟨74, [],
  (.seq (.seq (.reg [o 8 (.mov (.t 0)), o 9 (.nilck (.t 8)), o 10 (.faddr 0 (.t 9)), o 11 (.faddr 0 (.t 10)), o 12 (.faddr 0 (.t 11)), o 13 (.load true 480 (.t 12)), o 14 (.mov (.t 1)), o 15 (.call (cf fn_forest_Under) [(.t 13), (.t 14)]), o 16 (.len .sl (.t 15)), o 17 (.mov (ci 0))])
  (.block 0 (.loop l1_Pmodel_caller_gone)))
  (.reg [o 58 (.mov (.t 0)), o 59 (.mov (.t 0)), o 60 (.nilck (.t 59)), o 61 (.faddr 0 (.t 60)), o 62 (.faddr 0 (.t 61)), o 63 (.faddr 0 (.t 62)), o 64 (.load true 480 (.t 63)), o 65 (.mov (.t 1)), o 66 (.call (cf fn_forest_Fell) [(.t 64), (.t 65)]), o 57 (.mov (.t 66)), o 67 (.ext (.t 57) 0), o 68 (.ext (.t 57) 1), o 69 (.ext (.t 57) 2), o 70 (.nilck (.t 58)), o 71 (.faddr 0 (.t 70)), o 72 (.faddr 0 (.t 71)), o 73 (.faddr 0 (.t 72)), u (.store 480 (.t 73) (.t 67))]))⟩

def pf_Pmodel_caller_drops : PF := ⟨41, [],
  (.seq (.dreg [(o 10 (.mov (.t 0)), []), (o 11 (.nilck (.t 10)), []), (o 12 (.faddr 0 (.t 11)), []), (o 13 (.faddr 0 (.t 12)), []), (o 14 (.faddr 480 (.t 13)), []), (o 15 (.load true 128 (.t 14)), []), (o 16 (.mov (.t 0)), []), (o 17 (.nilck (.t 16)), []), (o 18 (.faddr 0 (.t 17)), []), (o 19 (.faddr 0 (.t 18)), []), (o 20 (.faddr 0 (.t 19)), []), (o 21 (.load true 480 (.t 20)), [5]), (o 22 (.mov (.t 1)), []), (o 23 (.mov (.t 2)), []), (o 24 (.call (cf fn_own_Owns_Drop) [(.t 15), (.t 21), (.t 22), (.t 23)]), []), (o 9 (.mov (.t 24)), []), (o 25 (.ext (.t 9) 0), []), (o 26 (.ext (.t 9) 1), []), (o 27 (.ext (.t 9) 2), []), (o 6 (.alloc z128_8087 none), [5, 11, 14]), (u (.store 128 (.t 6) (.t 25)), []), (o 7 (.mov (.t 26)), []), (o 8 (.mov (.t 27)), [])])
  (.seq (.reg [o 28 (.mov (.t 8)), o 29 (.call (cf fn_model_fine) [(.t 28)])])
  (.seq (.reg [o 30 (.mov (.t 0)), o 31 (.load true 128 (.t 6)), o 32 (.nilck (.t 30)), o 33 (.faddr 0 (.t 32)), o 34 (.faddr 0 (.t 33)), o 35 (.faddr 480 (.t 34)), u (.store 128 (.t 35) (.t 31))])
  (.seq (.reg [o 36 (.mov (.t 7)), o 37 (.eq .int (.t 36) (ci 0))])
  (.cond (.t 37) (.reg [o 38 (.mov (.t 0)), o 39 (.mov (.t 1)), o 40 (.call (cf fn_Pmodel_caller_gone) [(.t 38), (.t 39)])]) .skip)))))⟩

def l1_token_Tokens_Return : PC :=
  (.seq (.reg [o 28 (.bin .lss (.t 27) (.t 26))])
  (.seq (.cond (.t 28) .skip (.exit 0))
  (.seq (.block 1 (.seq (.reg [o 29 (.iaddrs 1 (.t 25) (.t 27)), o 30 (.load false 1 (.t 29)), o 11 (.mov (.t 30))])
    (.seq (.reg [o 31 (.load false 1 (.t 7)), o 32 (.mov (.t 11)), o 33 (.lookup .int (.bool false) (.t 31) (.t 32) false)])
    (.cond (.t 33) (.reg [o 34 (.mov (.t 9)), o 35 (.mov (.t 11)), o 36 (.bslice [(.int .u32 0)] 1 [(0, 1, (.t 35))]), o 37 (.append ty_handle_Handle 1 4 (.t 34) (.t 36)), o 9 (.mov (.t 37))]) .skip))))
  (.reg [o 38 (.bin .add (.t 27) (ci 1)), o 27 (.mov (.t 38))]))))
def pf_token_Tokens_Return : PF := ⟨43, [.cell 4 true 176, .t 5, .t 6],
  (.seq (.reg [o 2 (.box (.t 0)), o 4 (.alloc z176_e02c none), o 5 (.mov (.c .nils)), o 6 (.mov (ci 0))])
  (.seq (.seq (.reg [o 12 (.faddr 0 (.t 2)), o 13 (.load true 96 (.t 12)), o 14 (.mov (.t 1)), o 15 (.call (cf fn_handle_Book_Good) [(.t 13), (.t 14)]), o 16 (.un .not (.t 15))])
  (.cond (.t 16) (.seq (.reg [o 17 (.load true 176 (.t 2)), u (.store 176 (.t 4) (.t 17)), o 5 (.mov (.c .nils)), o 6 (.mov (ci 4))])
    .ret) .skip))
  (.seq (.reg [o 18 .mkmap, o 7 (.alloc [.nilm] none), u (.store 1 (.t 7) (.t 18))])
  (.seq (.reg [o 8 (.alloc [.nilf] none)])
  (.seq (.reg [o 19 (.mkf (.func fn_token_Tokens_Return_1) [] [(.t 7), (.t 2), (.t 8)]), u (.store 1 (.t 8) (.t 19))])
  (.seq (.reg [o 20 (.load false 1 (.t 8)), o 21 (.mov (.t 1)), o 22 (.call (.t 20) [(.t 21)])])
  (.seq (.reg [o 9 (.mov (.c .nils))])
  (.seq (.seq (.reg [o 23 (.faddr 0 (.t 2)), o 24 (.load true 96 (.t 23)), o 25 (.call (cf fn_handle_Book_Issued) [(.t 24)]), o 26 (.len .sl (.t 25)), o 27 (.mov (ci 0))])
  (.block 0 (.loop l1_token_Tokens_Return)))
  (.seq (.reg [o 39 (.load true 176 (.t 2)), o 40 (.mov (.t 9)), o 41 (.call (cf fn_token_Tokens_without) [(.t 39), (.t 40)]), o 42 (.mov (.t 9)), u (.store 176 (.t 4) (.t 41)), o 5 (.mov (.t 42)), o 6 (.mov (ci 0))])
  .ret)))))))))⟩

def pf_mail_Box_Drain : PF := ⟨7, [.cell 2 true 19, .t 3],
  (.seq (.reg [o 1 (.box (.t 0)), o 2 (.alloc [(.int .u8 0), (.int .u64 0), (.int .u32 0), (.bool false), (.int .u8 0), (.int .u64 0), (.int .u32 0), (.bool false), (.int .u8 0), (.int .u64 0), (.int .u32 0), (.bool false), (.int .u8 0), (.int .u64 0), (.int .u32 0), (.bool false), (.int .i64 0), (.int .i64 0), (.bool false)] none), o 3 (.mov (.c .nils))])
  (.seq (.reg [o 4 (.build [(.int .u8 0), (.int .u64 0), (.int .u32 0), (.bool false), (.int .u8 0), (.int .u64 0), (.int .u32 0), (.bool false), (.int .u8 0), (.int .u64 0), (.int .u32 0), (.bool false), (.int .u8 0), (.int .u64 0), (.int .u32 0), (.bool false), (.int .i64 0), (.int .i64 0), (.bool false)] [(18, 1, (.c (.bool true)))]), o 5 (.load true 19 (.t 1)), o 6 (.call (cf fn_mail_Box_All) [(.t 5)]), u (.store 19 (.t 2) (.t 4)), o 3 (.mov (.t 6))])
  .ret))⟩

def pf_own_Owns_Roots : PF := ⟨11, [.t 6],
  (.seq (.reg [o 3 (.box (.t 0)), o 4 (.box (.t 1)), o 5 (.box (.t 2)), o 6 (.mov (.c .nils))])
  (.seq (.reg [o 7 (.load true 128 (.t 3)), o 8 (.load true 480 (.t 4)), o 9 (.mkf (.func fn_own_Owns_Roots_1) [] [(.t 5)]), o 10 (.call (cf fn_own_Owns_those) [(.t 7), (.t 8), (.t 9)]), o 6 (.mov (.t 10))])
  .ret))⟩

def l1_own_Owns_those : PC :=
  (.seq (.reg [o 15 (.bin .lss (.t 14) (.t 13))])
  (.seq (.cond (.t 15) .skip (.exit 0))
  (.seq (.block 1 (.seq (.reg [o 16 (.iaddrs 1 (.t 12) (.t 14)), o 17 (.load false 1 (.t 16)), o 9 (.mov (.t 17))])
    (.seq (.reg [o 18 (.load true 480 (.t 4)), o 19 (.mov (.t 9)), o 20 (.call (cf fn_forest_Root) [(.t 18), (.t 19)]), o 21 (.mov (.t 9)), o 22 (.eq .int (.t 20) (.t 21)), o 23 (.mov (.t 22)), gt 23 (some 24) (.mov (.t 2)), gt 23 (some 25) (.load true 128 (.t 3)), gt 23 (some 26) (.load true 480 (.t 4)), gt 23 (some 27) (.mov (.t 9)), gt 23 (some 28) (.call (cf fn_own_Owns_Of) [(.t 25), (.t 26), (.t 27)]), gt 23 (some 29) (.call (.t 24) [(.t 28)]), o 30 (.pick (.t 23) (.t 29) (.c (.bool false)))])
    (.cond (.t 30) (.reg [o 31 (.mov (.t 7)), o 32 (.mov (.t 9)), o 33 (.bslice [(.int .u32 0)] 1 [(0, 1, (.t 32))]), o 34 (.append ty_handle_Handle 1 4 (.t 31) (.t 33)), o 7 (.mov (.t 34))]) .skip))))
  (.reg [o 35 (.bin .add (.t 14) (ci 1)), o 14 (.mov (.t 35))]))))
def pf_own_Owns_those : PF := ⟨37, [.t 6],
  (.seq (.reg [o 3 (.box (.t 0)), o 4 (.box (.t 1)), o 6 (.mov (.c .nils))])
  (.seq (.reg [o 7 (.mov (.c .nils))])
  (.seq (.seq (.reg [o 10 (.faddr 0 (.t 4)), o 11 (.load true 96 (.t 10)), o 12 (.call (cf fn_table_book_All) [(.t 11)]), o 13 (.len .sl (.t 12)), o 14 (.mov (ci 0))])
  (.block 0 (.loop l1_own_Owns_those)))
  (.seq (.reg [o 36 (.mov (.t 7)), o 6 (.mov (.t 36))])
  .ret))))⟩

def pf_own_Owns_Held_1 : PF := ⟨23, [.t 3],
  (.seq (.reg [o 2 (.box (.t 0)), o 3 (.mov (.c (.bool false)))])
  (.seq (.dreg [(o 4 (.faddr 0 (.t 2)), []), (o 5 (.load false 1 (.t 4)), []), (o 6 (.eq .int (.t 5) (.c (.int .u8 3))), []), (o 7 (.mov (.t 6)), []), (gt 7 (some 8) (.load false 1 (.t 1)), []), (gt 7 (some 9) (.bin .geq (.t 8) (ci 0)), []), (o 10 (.pick (.t 7) (.t 9) (.c (.bool false))), []), (o 11 (.mov (.t 10)), []), (gt 11 (some 12) (.load false 1 (.t 1)), []), (gt 11 (some 13) (.bin .lss (.t 12) (ci 8)), []), (o 14 (.pick (.t 11) (.t 13) (.c (.bool false))), []), (o 15 (.mov (.t 14)), []), (gt 15 (some 16) (.faddr 2 (.t 2)), []), (gt 15 (some 17) (.load false 1 (.t 16)), []), (gt 15 (some 18) (.load false 1 (.t 1)), [13]), (gt 15 (some 19) (.call (cf fn_own_bit) [(.t 18)]), [13]), (gt 15 (some 20) (.bin .and (.t 17) (.t 19)), []), (gt 15 (some 21) (.ne .int (.t 20) (.c (.int .u8 0))), []), (o 22 (.pick (.t 15) (.t 21) (.c (.bool false))), []), (o 3 (.mov (.t 22)), [])])
  .ret))⟩

def pf_own_bit : PF := ⟨6, [.t 2],
  (.seq (.reg [o 2 (.mov (.c (.int .u8 0)))])
  (.seq (.reg [o 3 (.mov (.t 0)), o 4 (.bin .and (.t 3) (ci 7)), o 5 (.shf .shl (.c (.int .u8 1)) (.t 4)), o 2 (.mov (.t 5))])
  .ret))⟩

def pf_own_Owns_Give : PF := ⟨20, [.cell 8 true 128, .t 9],
  (.seq (.reg [o 4 (.box (.t 0)), o 5 (.box (.t 1)), o 8 (.alloc z128_8087 none), o 9 (.mov (ci 0))])
  (.seq (.reg [o 10 (.load true 128 (.t 4)), o 11 (.load true 480 (.t 5)), o 12 (.mov (.t 2)), o 13 (.mov (.t 3)), o 14 (.mov (.t 3)), o 15 (.conv .u8 (.t 14)), o 16 (.build [(.int .u8 0), (.int .u8 0), (.int .u8 0)] [(0, 1, (.c (.int .u8 1))), (1, 1, (.t 15))]), o 17 (.call (cf fn_own_Owns_say) [(.t 10), (.t 11), (.t 12), (.t 13), (.t 16)]), o 18 (.ext (.t 17) 0), o 19 (.ext (.t 17) 1), u (.store 128 (.t 8) (.t 18)), o 9 (.mov (.t 19))])
  .ret))⟩

def pf_token_Tokens_Clear : PF := ⟨10, [.cell 4 true 176],
  (.seq (.reg [o 2 (.box (.t 0)), o 4 (.alloc z176_e02c none)])
  (.seq (.dreg [(o 5 (.load true 176 (.t 2)), []), (o 6 (.load true 176 (.t 2)), [0]), (o 7 (.mov (.t 1)), []), (o 8 (.call (cf fn_token_Tokens_On) [(.t 6), (.t 7)]), [0]), (o 9 (.call (cf fn_token_Tokens_without) [(.t 5), (.t 8)]), []), (u (.store 176 (.t 4) (.t 9)), [])])
  .ret))⟩

def l1_forest_Fell : PC :=
  (.seq (.reg [o 20 (.bin .lss (.t 19) (.t 18))])
  (.seq (.cond (.t 20) .skip (.exit 0))
  (.seq (.block 1 (.seq (.reg [o 21 (.iaddrs 1 (.t 17) (.t 19)), o 22 (.load false 1 (.t 21)), o 9 (.mov (.t 22))])
    (.reg [o 24 (.load true 480 (.t 2)), o 25 (.mov (.t 9)), o 26 (.call (cf fn_table_Table_Drop) [(.t 24), (.t 25)]), o 23 (.mov (.t 26)), o 27 (.ext (.t 23) 0), o 28 (.ext (.t 23) 1), u (.store 480 (.t 2) (.t 27))])))
  (.reg [o 29 (.bin .add (.t 19) (ci 1)), o 19 (.mov (.t 29))]))))
def pf_forest_Fell : PF := ⟨32, [.cell 4 true 480, .t 5, .t 6],
  (.seq (.reg [o 2 (.box (.t 0)), o 4 (.alloc z480_3a0d none), o 5 (.mov (.c .nils)), o 6 (.mov (ci 0))])
  (.seq (.reg [o 10 (.load true 480 (.t 2)), o 11 (.mov (.t 1)), o 12 (.call (cf fn_forest_Under) [(.t 10), (.t 11)]), o 7 (.mov (.t 12))])
  (.seq (.seq (.reg [o 13 (.mov (.t 7)), o 14 (.len .sl (.t 13)), o 15 (.eq .int (.t 14) (ci 0))])
  (.cond (.t 15) (.seq (.reg [o 16 (.load true 480 (.t 2)), u (.store 480 (.t 4) (.t 16)), o 5 (.mov (.c .nils)), o 6 (.mov (ci 4))])
    .ret) .skip))
  (.seq (.seq (.reg [o 17 (.mov (.t 7)), o 18 (.len .sl (.t 17)), o 19 (.mov (ci 0))])
  (.block 0 (.loop l1_forest_Fell)))
  (.seq (.reg [o 30 (.load true 480 (.t 2)), o 31 (.mov (.t 7)), u (.store 480 (.t 4) (.t 30)), o 5 (.mov (.t 31)), o 6 (.mov (ci 0))])
  .ret)))))⟩

def pf_own_Owns_say : PF := ⟨49, [.cell 10 true 128, .t 11],
  (.seq (.reg [o 5 (.box (.t 0)), o 6 (.box (.t 1)), o 9 (.box (.t 4)), o 10 (.alloc z128_8087 none), o 11 (.mov (ci 0))])
  (.seq (.block 0 (.seq (.reg [o 15 (.faddr 0 (.t 6)), o 16 (.faddr 0 (.t 15)), o 17 (.load true 96 (.t 16)), o 18 (.mov (.t 2)), o 19 (.call (cf fn_handle_Book_Good) [(.t 17), (.t 18)]), o 20 (.un .not (.t 19)), o 14 (.mov (.t 20))])
    (.cond (.t 14) (.seq (.reg [o 21 (.load true 128 (.t 5)), u (.store 128 (.t 10) (.t 21)), o 11 (.mov (ci 4))])
      .ret) (.seq (.reg [o 23 (.load true 480 (.t 6)), o 24 (.mov (.t 2)), o 25 (.call (cf fn_forest_Root) [(.t 23), (.t 24)]), o 26 (.mov (.t 2)), o 27 (.ne .int (.t 25) (.t 26)), o 22 (.mov (.t 27))])
      (.cond (.t 22) (.seq (.reg [o 28 (.load true 128 (.t 5)), u (.store 128 (.t 10) (.t 28)), o 11 (.mov (ci 12))])
        .ret) (.seq (.reg [o 30 (.mov (.t 3)), o 31 (.bin .lss (.t 30) (ci 0)), o 32 (.mov (.t 31)), gf 32 (some 33) (.mov (.t 3)), gf 32 (some 34) (.bin .geq (.t 33) (ci 8)), o 35 (.pick (.t 32) (.c (.bool true)) (.t 34)), o 29 (.mov (.t 35))])
        (.cond (.t 29) (.seq (.reg [o 36 (.load true 128 (.t 5)), u (.store 128 (.t 10) (.t 36)), o 11 (.mov (ci 2))])
          .ret) .skip)))))))
  (.seq (.reg [o 38 (.mov (.t 2)), o 39 (.call (cf fn_handle_Handle_Slot) [(.t 38)]), o 37 (.mov (.t 39)), o 40 (.ext (.t 37) 0), o 41 (.ext (.t 37) 1), o 12 (.mov (.t 40)), o 13 (.mov (.t 41))])
  (.seq (.reg [o 42 (.mov (.t 12)), o 43 (.mov (.t 2)), o 44 (.load true 3 (.t 9)), o 45 (.build [(.int .u32 0), (.int .u8 0), (.int .u8 0), (.int .u8 0)] [(0, 1, (.t 43)), (1, 3, (.t 44))]), o 46 (.faddr 0 (.t 5)), o 47 (.iaddra 32 4 (.t 46) (.t 42)), u (.store 4 (.t 47) (.t 45))])
  (.seq (.reg [o 48 (.load true 128 (.t 5)), u (.store 128 (.t 10) (.t 48)), o 11 (.mov (ci 0))])
  .ret)))))⟩

def pf_own_Owns_held : PF := ⟨98, [.cell 10 true 128, .t 11, .t 12],
  (.seq (.reg [o 5 (.box (.t 0)), o 6 (.box (.t 1)), o 10 (.alloc z128_8087 none), o 11 (.mov (.c (.int .u8 0))), o 12 (.mov (ci 0))])
  (.seq (.reg [o 17 (.load true 128 (.t 5)), o 18 (.load true 480 (.t 6)), o 19 (.mov (.t 2)), o 20 (.call (cf fn_own_Owns_Of) [(.t 17), (.t 18), (.t 19)]), o 13 (.alloc [(.int .u8 0), (.int .u8 0), (.int .u8 0)] none), u (.store 3 (.t 13) (.t 20))])
  (.seq (.reg [o 22 (.load true 128 (.t 5)), o 23 (.load true 480 (.t 6)), o 24 (.mov (.t 2)), o 25 (.mov (.t 3)), o 26 (.load true 3 (.t 13)), o 27 (.call (cf fn_own_Owns_say) [(.t 22), (.t 23), (.t 24), (.t 25), (.t 26)]), o 21 (.mov (.t 27)), o 28 (.ext (.t 21) 0), o 29 (.ext (.t 21) 1), o 14 (.alloc z128_8087 none), u (.store 128 (.t 14) (.t 28)), o 15 (.mov (.t 29))])
  (.seq (.dreg [(o 30 (.faddr 2 (.t 13)), []), (o 31 (.load false 1 (.t 30)), []), (o 32 (.mov (.t 3)), []), (o 33 (.call (cf fn_own_bit) [(.t 32)]), [1]), (o 34 (.bin .and (.t 31) (.t 33)), []), (o 35 (.ne .int (.t 34) (.c (.int .u8 0))), []), (o 16 (.mov (.t 35)), [])])
  (.seq (.block 0 (.seq (.reg [o 37 (.mov (.t 15)), o 38 (.eq .int (.t 37) (ci 4)), o 39 (.mov (.t 38)), gf 39 (some 40) (.faddr 0 (.t 6)), gf 39 (some 41) (.faddr 0 (.t 40)), gf 39 (some 42) (.load true 96 (.t 41)), gf 39 (some 43) (.mov (.t 2)), gf 39 (some 44) (.call (cf fn_handle_Book_Good) [(.t 42), (.t 43)]), gf 39 (some 45) (.mov (.t 44)), gt 45 (some 46) (.load true 480 (.t 6)), gt 45 (some 47) (.mov (.t 2)), gt 45 (some 48) (.call (cf fn_forest_Root) [(.t 46), (.t 47)]), gt 45 (some 49) (.mov (.t 2)), gt 45 (some 50) (.ne .int (.t 48) (.t 49)), gf 39 (some 51) (.pick (.t 45) (.t 50) (.c (.bool false))), o 52 (.pick (.t 39) (.c (.bool true)) (.t 51)), o 36 (.mov (.t 52))])
    (.cond (.t 36) (.seq (.reg [o 53 (.load true 128 (.t 5)), o 54 (.mov (.t 15)), u (.store 128 (.t 10) (.t 53)), o 11 (.mov (.c (.int .u8 0))), o 12 (.mov (.t 54))])
      .ret) (.seq (.reg [o 56 (.faddr 0 (.t 13)), o 57 (.load false 1 (.t 56)), o 58 (.ne .int (.t 57) (.c (.int .u8 3))), o 55 (.mov (.t 58))])
      (.cond (.t 55) (.seq (.reg [o 59 (.load true 128 (.t 5)), u (.store 128 (.t 10) (.t 59)), o 11 (.mov (.c (.int .u8 0))), o 12 (.mov (ci 12))])
        .ret) (.seq (.reg [o 61 (.mov (.t 15)), o 62 (.ne .int (.t 61) (ci 0)), o 60 (.mov (.t 62))])
        (.cond (.t 60) (.seq (.reg [o 63 (.load true 128 (.t 5)), o 64 (.mov (.t 15)), u (.store 128 (.t 10) (.t 63)), o 11 (.mov (.c (.int .u8 0))), o 12 (.mov (.t 64))])
          .ret) (.seq (.reg [o 66 (.mov (.t 16)), o 67 (.mov (.t 66)), gt 67 (some 68) (.mov (.t 4)), o 69 (.pick (.t 67) (.t 68) (.c (.bool false))), o 65 (.mov (.t 69))])
          (.cond (.t 65) (.seq (.reg [o 70 (.load true 128 (.t 5)), u (.store 128 (.t 10) (.t 70)), o 11 (.mov (.c (.int .u8 0))), o 12 (.mov (ci 7))])
            .ret) (.seq (.reg [o 72 (.mov (.t 16)), o 73 (.un .not (.t 72)), o 74 (.mov (.t 73)), gt 74 (some 75) (.mov (.t 4)), gt 74 (some 76) (.un .not (.t 75)), o 77 (.pick (.t 74) (.t 76) (.c (.bool false))), o 71 (.mov (.t 77))])
            (.cond (.t 71) (.seq (.reg [o 78 (.load true 128 (.t 5)), u (.store 128 (.t 10) (.t 78)), o 11 (.mov (.c (.int .u8 0))), o 12 (.mov (ci 5))])
              .ret) .skip)))))))))))
  (.seq (.dreg [(o 79 (.faddr 2 (.t 13)), []), (o 80 (.load false 1 (.t 79)), []), (o 81 (.mov (.t 3)), []), (o 82 (.call (cf fn_own_bit) [(.t 81)]), [1]), (o 83 (.bin .xor (.t 80) (.t 82)), []), (o 84 (.faddr 2 (.t 13)), []), (u (.store 1 (.t 84) (.t 83)), [])])
  (.seq (.reg [o 86 (.load true 128 (.t 14)), o 87 (.load true 480 (.t 6)), o 88 (.mov (.t 2)), o 89 (.mov (.t 3)), o 90 (.load true 3 (.t 13)), o 91 (.call (cf fn_own_Owns_say) [(.t 86), (.t 87), (.t 88), (.t 89), (.t 90)]), o 85 (.mov (.t 91)), o 92 (.ext (.t 85) 0), o 93 (.ext (.t 85) 1), u (.store 128 (.t 14) (.t 92)), o 15 (.mov (.t 93))])
  (.seq (.dreg [(o 94 (.load true 128 (.t 14)), []), (o 95 (.faddr 2 (.t 13)), []), (o 96 (.load false 1 (.t 95)), [0]), (o 97 (.mov (.t 15)), []), (u (.store 128 (.t 10) (.t 94)), [2]), (o 11 (.mov (.t 96)), []), (o 12 (.mov (.t 97)), [])])
  .ret))))))))⟩

def pf_own_Owns_Drop : PF := ⟨27, [.cell 8 true 128, .t 9, .t 10],
  (.seq (.reg [o 4 (.box (.t 0)), o 5 (.box (.t 1)), o 8 (.alloc z128_8087 none), o 9 (.mov (ci 0)), o 10 (.mov (ci 0))])
  (.seq (.reg [o 15 (.load true 128 (.t 4)), o 16 (.load true 480 (.t 5)), o 17 (.mov (.t 2)), o 18 (.mov (.t 3)), o 19 (.call (cf fn_own_Owns_held) [(.t 15), (.t 16), (.t 17), (.t 18), (.c (.bool false))]), o 14 (.mov (.t 19)), o 20 (.ext (.t 14) 0), o 21 (.ext (.t 14) 1), o 22 (.ext (.t 14) 2), o 11 (.alloc z128_8087 none), u (.store 128 (.t 11) (.t 20)), o 12 (.mov (.t 21)), o 13 (.mov (.t 22))])
  (.seq (.dreg [(o 23 (.load true 128 (.t 11)), []), (o 24 (.mov (.t 12)), []), (o 25 (.call (cf fn_math_bits_OnesCount8) [(.t 24)]), [0]), (o 26 (.mov (.t 13)), []), (u (.store 128 (.t 8) (.t 23)), []), (o 9 (.mov (.t 25)), []), (o 10 (.mov (.t 26)), [])])
  .ret)))⟩

def l1_token_Tokens_Return_1 : PC :=
  (.seq (.reg [o 14 (.bin .lss (.t 13) (.t 12))])
  (.seq (.cond (.t 14) .skip (.exit 0))
  (.seq (.block 1 (.seq (.reg [o 15 (.iaddrs 1 (.t 11) (.t 13)), o 16 (.load false 1 (.t 15)), o 6 (.mov (.t 16))])
    (.reg [o 17 (.load false 1 (.t 3)), o 18 (.mov (.t 6)), o 19 (.call (.t 17) [(.t 18)])])))
  (.reg [o 20 (.bin .add (.t 13) (ci 1)), o 13 (.mov (.t 20))]))))
def pf_token_Tokens_Return_1 : PF := ⟨21, [],
  (.seq (.reg [o 4 (.box (.t 0))])
  (.seq (.reg [o 7 (.load false 1 (.t 1)), o 8 (.load false 1 (.t 4)), u (.mput .int (.t 7) (.t 8) (.c (.bool true)))])
  (.seq (.reg [o 9 (.load true 176 (.t 2)), o 10 (.mkf (.func fn_token_Tokens_Return_1_1) [] [(.t 4)]), o 11 (.call (cf fn_token_Tokens_those) [(.t 9), (.t 10)]), o 12 (.len .sl (.t 11)), o 13 (.mov (ci 0))])
  (.block 0 (.loop l1_token_Tokens_Return_1)))))⟩

def pf_token_Tokens_Return_1_1 : PF := ⟨8, [.t 3],
  (.seq (.reg [o 2 (.box (.t 0)), o 3 (.mov (.c (.bool false)))])
  (.seq (.reg [o 4 (.faddr 4 (.t 2)), o 5 (.load false 1 (.t 4)), o 6 (.load false 1 (.t 1)), o 7 (.eq .int (.t 5) (.t 6)), o 3 (.mov (.t 7))])
  .ret))⟩

def l1_token_Tokens_without : PC :=
  (.seq (.reg [o 10 (.bin .lss (.t 9) (.t 8))])
  (.seq (.cond (.t 10) .skip (.exit 0))
  (.seq (.block 1 (.seq (.reg [o 11 (.iaddrs 1 (.t 7) (.t 9)), o 12 (.load false 1 (.t 11)), o 6 (.mov (.t 12))])
    (.reg [o 14 (.faddr 0 (.t 2)), o 15 (.load true 96 (.t 14)), o 16 (.mov (.t 6)), o 17 (.call (cf fn_handle_Book_Void) [(.t 15), (.t 16)]), o 13 (.mov (.t 17)), o 18 (.ext (.t 13) 0), o 19 (.ext (.t 13) 1), o 20 (.faddr 0 (.t 2)), u (.store 96 (.t 20) (.t 18))])))
  (.reg [o 21 (.bin .add (.t 9) (ci 1)), o 9 (.mov (.t 21))]))))
def pf_token_Tokens_without : PF := ⟨23, [.cell 4 true 176],
  (.seq (.reg [o 2 (.box (.t 0)), o 4 (.alloc z176_e02c none)])
  (.seq (.seq (.reg [o 7 (.mov (.t 1)), o 8 (.len .sl (.t 7)), o 9 (.mov (ci 0))])
  (.block 0 (.loop l1_token_Tokens_without)))
  (.seq (.reg [o 22 (.load true 176 (.t 2)), u (.store 176 (.t 4) (.t 22))])
  .ret)))⟩

def pf_own_Owns_Roots_1 : PF := ⟨14, [.t 3],
  (.seq (.reg [o 2 (.box (.t 0)), o 3 (.mov (.c (.bool false)))])
  (.seq (.reg [o 4 (.faddr 0 (.t 2)), o 5 (.load false 1 (.t 4)), o 6 (.eq .int (.t 5) (.c (.int .u8 1))), o 7 (.mov (.t 6)), gt 7 (some 8) (.faddr 1 (.t 2)), gt 7 (some 9) (.load false 1 (.t 8)), gt 7 (some 10) (.conv .i64 (.t 9)), gt 7 (some 11) (.load false 1 (.t 1)), gt 7 (some 12) (.eq .int (.t 10) (.t 11)), o 13 (.pick (.t 7) (.t 12) (.c (.bool false))), o 3 (.mov (.t 13))])
  .ret))⟩

def pf_token_Tokens_On : PF := ⟨8, [.t 4],
  (.seq (.reg [o 2 (.box (.t 0)), o 3 (.box (.t 1)), o 4 (.mov (.c .nils))])
  (.seq (.reg [o 5 (.load true 176 (.t 2)), o 6 (.mkf (.func fn_token_Tokens_On_1) [] [(.t 3)]), o 7 (.call (cf fn_token_Tokens_those) [(.t 5), (.t 6)]), o 4 (.mov (.t 7))])
  .ret))⟩

def pf_table_Table_Drop : PF := ⟨34, [.cell 4 true 480, .t 5],
  (.seq (.reg [o 2 (.box (.t 0)), o 4 (.alloc z480_3a0d none), o 5 (.mov (ci 0))])
  (.seq (.reg [o 11 (.faddr 0 (.t 2)), o 12 (.faddr 0 (.t 11)), o 13 (.load true 96 (.t 12)), o 14 (.mov (.t 1)), o 15 (.call (cf fn_handle_Book_Void) [(.t 13), (.t 14)]), o 10 (.mov (.t 15)), o 16 (.ext (.t 10) 0), o 17 (.ext (.t 10) 1), o 6 (.alloc z96_9863 none), u (.store 96 (.t 6) (.t 16)), o 7 (.mov (.t 17))])
  (.seq (.seq (.reg [o 18 (.mov (.t 7)), o 19 (.un .not (.t 18))])
  (.cond (.t 19) (.seq (.reg [o 20 (.load true 480 (.t 2)), u (.store 480 (.t 4) (.t 20)), o 5 (.mov (ci 4))])
    .ret) .skip))
  (.seq (.reg [o 21 (.load true 96 (.t 6)), o 22 (.faddr 0 (.t 2)), o 23 (.faddr 0 (.t 22)), u (.store 96 (.t 23) (.t 21))])
  (.seq (.reg [o 25 (.mov (.t 1)), o 26 (.call (cf fn_handle_Handle_Slot) [(.t 25)]), o 24 (.mov (.t 26)), o 27 (.ext (.t 24) 0), o 28 (.ext (.t 24) 1), o 8 (.mov (.t 27)), o 9 (.mov (.t 28))])
  (.seq (.reg [o 29 (.mov (.t 8)), o 30 (.build [(.int .u32 0), (.int .i64 0), .nils, (.int .i64 0), (.int .u32 0), (.int .u32 0), (.int .u32 0), (.int .u32 0), (.int .u32 0), (.int .u32 0), (.int .u32 0), (.int .u32 0)] []), o 31 (.faddr 96 (.t 2)), o 32 (.iaddra 32 12 (.t 31) (.t 29)), u (.store 12 (.t 32) (.t 30))])
  (.seq (.reg [o 33 (.load true 480 (.t 2)), u (.store 480 (.t 4) (.t 33)), o 5 (.mov (ci 0))])
  .ret)))))))⟩

def pf_math_bits_OnesCount8 : PF := ⟨6, [.t 2],
  (.seq (.reg [o 2 (.mov (ci 0))])
  (.seq (.reg [o 3 (.mov (.t 0)), o 4 (.idxs (.c (S str_12baf84e)) (.t 3)), o 5 (.conv .i64 (.t 4)), o 2 (.mov (.t 5))])
  .ret))⟩

def pf_handle_Book_Void : PF := ⟨41, [.cell 4 true 96, .t 5],
  (.seq (.reg [o 2 (.box (.t 0)), o 4 (.alloc z96_9863 none), o 5 (.mov (.c (.bool false)))])
  (.seq (.seq (.reg [o 9 (.load true 96 (.t 2)), o 10 (.mov (.t 1)), o 11 (.call (cf fn_handle_Book_Good) [(.t 9), (.t 10)]), o 12 (.un .not (.t 11))])
  (.cond (.t 12) (.seq (.reg [o 13 (.load true 96 (.t 2)), u (.store 96 (.t 4) (.t 13)), o 5 (.mov (.c (.bool false)))])
    .ret) .skip))
  (.seq (.reg [o 15 (.mov (.t 1)), o 16 (.call (cf fn_handle_Handle_Slot) [(.t 15)]), o 14 (.mov (.t 16)), o 17 (.ext (.t 14) 0), o 18 (.ext (.t 14) 1), o 6 (.mov (.t 17)), o 7 (.mov (.t 18))])
  (.seq (.reg [o 19 (.mov (.t 6)), o 20 (.faddr 0 (.t 2)), o 21 (.iaddra 32 3 (.t 20) (.t 19)), o 8 (.mov (.t 21))])
  (.seq (.reg [o 22 (.mov (.t 8)), o 23 (.nilck (.t 22)), o 24 (.faddr 1 (.t 23)), u (.store 1 (.t 24) (.c (.bool false)))])
  (.seq (.seq (.reg [o 25 (.mov (.t 8)), o 26 (.nilck (.t 25)), o 27 (.faddr 0 (.t 26)), o 28 (.load false 1 (.t 27)), o 29 (.eq .int (.t 28) (.c (.int .u32 8388607)))])
  (.cond (.t 29) (.reg [o 30 (.mov (.t 8)), o 31 (.nilck (.t 30)), o 32 (.faddr 2 (.t 31)), u (.store 1 (.t 32) (.c (.bool true)))]) (.reg [o 33 (.mov (.t 8)), o 34 (.nilck (.t 33)), o 35 (.faddr 0 (.t 34)), o 36 (.load false 1 (.t 35)), o 37 (.bin .add (.t 36) (.c (.int .u32 1))), o 38 (.nilck (.t 33)), o 39 (.faddr 0 (.t 38)), u (.store 1 (.t 39) (.t 37))])))
  (.seq (.reg [o 40 (.load true 96 (.t 2)), u (.store 96 (.t 4) (.t 40)), o 5 (.mov (.c (.bool true)))])
  .ret)))))))⟩

def pf_token_Tokens_On_1 : PF := ⟨8, [.t 3],
  (.seq (.reg [o 2 (.box (.t 0)), o 3 (.mov (.c (.bool false)))])
  (.seq (.reg [o 4 (.faddr 0 (.t 2)), o 5 (.load false 1 (.t 4)), o 6 (.load false 1 (.t 1)), o 7 (.eq .int (.t 5) (.t 6)), o 3 (.mov (.t 7))])
  .ret))⟩

def recT : List (Nat × PRec) := [(fn_Pmodel_caller_calls_1, pr_Pmodel_caller_calls_1)]

def codeT : List (Nat × PF) := [(fn_law25_SchedGaps, pf_law25_SchedGaps), (fn_law25_wakes, pf_law25_wakes), (fn_sched_Policy_Next, pf_sched_Policy_Next), (fn_sched_Gap, pf_sched_Gap), (fn_ref25_Gap, pf_ref25_Gap), (fn_model_Begin, pf_model_Begin), (fn_machine_New, pf_machine_New), (fn_Pmachine_Machine_Pick, pf_Pmachine_Machine_Pick), (fn_sched_Policy_May, pf_sched_Policy_May), (fn_Pmachine_Machine_Ready, pf_Pmachine_Machine_Ready), (fn_Pmachine_Machine_Core, pf_Pmachine_Machine_Core), (fn_runs_Runs_Has, pf_runs_Runs_Has), (fn_script_Script_May, pf_script_Script_May), (fn_call_New, pf_call_New), (fn_task_Of, pf_task_Of), (fn_Pcall_Core_Reap, pf_Pcall_Core_Reap), (fn_Pmachine_Machine_alive, pf_Pmachine_Machine_alive), (fn_Pmachine_Machine_slays, pf_Pmachine_Machine_slays), (fn_Pmachine_Machine_steps, pf_Pmachine_Machine_steps), (fn_Pmachine_Machine_clear, pf_Pmachine_Machine_clear), (fn_Pmachine_Machine_has, pf_Pmachine_Machine_has), (fn_Pmachine_Machine_waits, pf_Pmachine_Machine_waits), (fn_slices_Clone_int_int, pf_slices_Clone_int_int), (fn_model_State_Do, pf_model_State_Do), (fn_mail_Box_All, pf_mail_Box_All), (fn_table_book_All, pf_table_book_All), (fn_table_Table_Get, pf_table_Table_Get), (fn_extent_Extent_Place, pf_extent_Extent_Place), (fn_Ppool_Pool_Read, pf_Ppool_Pool_Read), (fn_Pmachine_Machine_Under, pf_Pmachine_Machine_Under), (fn_runs_Run_may, pf_runs_Run_may), (fn_slices_ContainsFunc_runs_Run_runs_Run, pf_slices_ContainsFunc_runs_Run_runs_Run), (fn_runs_Runs_Has_1, pf_runs_Runs_Has_1), (fn_runs_Run_holds, pf_runs_Run_holds), (fn_script_Script_May_1, pf_script_Script_May_1), (fn_code_Decode, pf_code_Decode), (fn_slices_ContainsFunc_string_string, pf_slices_ContainsFunc_string_string), (fn_slices_ContainsFunc_uint8_uint8, pf_slices_ContainsFunc_uint8_uint8), (fn_script_Script_May_2, pf_script_Script_May_2), (fn_script_pick, pf_script_pick), (fn_pool_New, pf_pool_New), (fn_Ppool_Pool_Back, pf_Ppool_Pool_Back), (fn_task_Task_Wants, pf_task_Task_Wants), (fn_Pmachine_Machine_calls, pf_Pmachine_Machine_calls), (fn_task_Task_Step, pf_task_Task_Step), (fn_Pcall_Core_Cut, pf_Pcall_Core_Cut), (fn_plan_Waits, pf_plan_Waits), (fn_model_State_Needs, pf_model_State_Needs), (fn_own_Owns_Of, pf_own_Owns_Of), (fn_token_Tokens_Of, pf_token_Tokens_Of), (fn_handle_Handle_Slot, pf_handle_Handle_Slot), (fn_token_Tokens_Get, pf_token_Tokens_Get), (fn_mail_Box_each, pf_mail_Box_each), (fn_slices_Clip_mail_Message_mail_Message, pf_slices_Clip_mail_Message_mail_Message), (fn_handle_Book_Issued, pf_handle_Book_Issued), (fn_handle_Book_Good, pf_handle_Book_Good), (fn_table_Table_up, pf_table_Table_up), (fn_extent_Extent_chunks, pf_extent_Extent_chunks), (fn_Ppool_Pool_byte, pf_Ppool_Pool_byte), (fn_Ppool_Pool_Read_1, pf_Ppool_Pool_Read_1), (fn_slices_Clone_handle_Handle_handle_Handle, pf_slices_Clone_handle_Handle_handle_Handle), (fn_mark_may, pf_mark_may), (fn_slices_IndexFunc_runs_Run_runs_Run, pf_slices_IndexFunc_runs_Run_runs_Run), (fn_runs_Run_end, pf_runs_Run_end), (fn_code_May, pf_code_May), (fn_slices_IndexFunc_string_string, pf_slices_IndexFunc_string_string), (fn_slices_IndexFunc_uint8_uint8, pf_slices_IndexFunc_uint8_uint8), (fn_runs_Of, pf_runs_Of), (fn_Ppool_Pool_lent, pf_Ppool_Pool_lent), (fn_Ppool_Pool_Back_1, pf_Ppool_Pool_Back_1), (fn_runs_Runs_Give, pf_runs_Runs_Give), (fn_task_Task_instr, pf_task_Task_instr), (fn_task_Task_reg, pf_task_Task_reg), (fn_Pcall_Core_Step, pf_Pcall_Core_Step), (fn_Pmachine_Machine_ended, pf_Pmachine_Machine_ended), (fn_machine_handed, pf_machine_handed), (fn_task_Task_Step_1, pf_task_Task_Step_1), (fn_task_Task_Step_2, pf_task_Task_Step_2), (fn_task_Task_Step_3, pf_task_Task_Step_3), (fn_task_Task_Step_4, pf_task_Task_Step_4), (fn_task_Task_Step_5, pf_task_Task_Step_5), (fn_task_Task_Step_6, pf_task_Task_Step_6), (fn_Pcall_Core_queue, pf_Pcall_Core_queue), (fn_mark_Marks_Gone, pf_mark_Marks_Gone), (fn_plan_Check, pf_plan_Check), (fn_model_ask, pf_model_ask), (fn_forest_Root, pf_forest_Root), (fn_token_Tokens_those, pf_token_Tokens_those), (fn_token_Tokens_Of_1, pf_token_Tokens_Of_1), (fn_mail_Box_each_1, pf_mail_Box_each_1), (fn_mail_Box_at, pf_mail_Box_at), (fn_handle_Book_At, pf_handle_Book_At), (fn_extent_Extent_chunks_1, pf_extent_Extent_chunks_1), (fn_Ppool_Pool_byte_1, pf_Ppool_Pool_byte_1), (fn_slices_ContainsFunc_code_Instr_code_Instr, pf_slices_ContainsFunc_code_Instr_code_Instr), (fn_code_May_1, pf_code_May_1), (fn_code_Instr_may, pf_code_Instr_may), (fn_runs_Runs_each, pf_runs_Runs_each), (fn_Pcall_stepper_check, pf_Pcall_stepper_check), (fn_Pcall_stepper_marks, pf_Pcall_stepper_marks), (fn_Pcall_stepper_claims, pf_Pcall_stepper_claims), (fn_Pcall_stepper_clears, pf_Pcall_stepper_clears), (fn_Pcall_stepper_commits, pf_Pcall_stepper_commits), (fn_task_Task_Takes, pf_task_Task_Takes), (fn_mark_Marks_Free, pf_mark_Marks_Free), (fn_mark_line_without, pf_mark_line_without), (fn_forest_above, pf_forest_above), (fn_handle_of, pf_handle_of), (fn_slices_IndexFunc_code_Instr_code_Instr, pf_slices_IndexFunc_code_Instr_code_Instr), (fn_slices_All_runs_Run_runs_Run, pf_slices_All_runs_Run_runs_Run), (fn_Pcall_stepper_ends, pf_Pcall_stepper_ends), (fn_plan_Regions, pf_plan_Regions), (fn_mark_Marks_Try, pf_mark_Marks_Try), (fn_Ppool_Pool_Claim, pf_Ppool_Pool_Claim), (fn_Ppool_Pool_Clear, pf_Ppool_Pool_Clear), (fn_model_State_Place, pf_model_State_Place), (fn_Pcall_stepper_bytes, pf_Pcall_stepper_bytes), (fn_Pcall_stepper_commits_1, pf_Pcall_stepper_commits_1), (fn_Ppool_Pool_Write, pf_Ppool_Pool_Write), (fn_Pcall_stepper_commits_2, pf_Pcall_stepper_commits_2), (fn_mark_line_place, pf_mark_line_place), (fn_forest_above_1, pf_forest_above_1), (fn_slices_All_runs_Run_runs_Run_1, pf_slices_All_runs_Run_runs_Run_1), (fn_plan_Regions_1, pf_plan_Regions_1), (fn_plan_one, pf_plan_one), (fn_plan_Regions_2, pf_plan_Regions_2), (fn_forest_Under, pf_forest_Under), (fn_plan_Regions_3, pf_plan_Regions_3), (fn_slices_Contains_handle_Handle_handle_Handle, pf_slices_Contains_handle_Handle_handle_Handle), (fn_plan_Regions_4, pf_plan_Regions_4), (fn_plan_Regions_5, pf_plan_Regions_5), (fn_runs_Runs_Find, pf_runs_Runs_Find), (fn_runs_Runs_Take, pf_runs_Runs_Take), (fn_Ppool_Pool_Clear_1, pf_Ppool_Pool_Clear_1), (fn_slices_Clip_int_int, pf_slices_Clip_int_int), (fn_Ppool_Pool_Write_1, pf_Ppool_Pool_Write_1), (fn_slices_Index_uint8_uint8, pf_slices_Index_uint8_uint8), (fn_slices_Collect_handle_Handle, pf_slices_Collect_handle_Handle), (fn_forest_under, pf_forest_under), (fn_slices_Index_handle_Handle_handle_Handle, pf_slices_Index_handle_Handle_handle_Handle), (fn_runs_Runs_Take_1, pf_runs_Runs_Take_1), (fn_slices_Concat_runs_Run_runs_Run, pf_slices_Concat_runs_Run_runs_Run), (fn_slices_AppendSeq_handle_Handle_handle_Handle, pf_slices_AppendSeq_handle_Handle_handle_Handle), (fn_forest_under_1, pf_forest_under_1), (fn_forest_Kids, pf_forest_Kids), (fn_slices_Reverse_handle_Handle_handle_Handle, pf_slices_Reverse_handle_Handle_handle_Handle), (fn_slices_DeleteFunc_handle_Handle_handle_Handle, pf_slices_DeleteFunc_handle_Handle_handle_Handle), (fn_forest_Kids_1, pf_forest_Kids_1), (fn_slices_IndexFunc_handle_Handle_handle_Handle, pf_slices_IndexFunc_handle_Handle_handle_Handle), (fn_own_Owns_Held, pf_own_Owns_Held), (fn_Pmodel_caller_dies, pf_Pmodel_caller_dies), (fn_sched_kinds_1, pf_sched_kinds_1), (fn_sched_kinds_1_1, pf_sched_kinds_1_1), (fn_sched_kinds_2, pf_sched_kinds_2), (fn_slices_Contains_uint8_uint8, pf_slices_Contains_uint8_uint8), (fn_sched_kinds_3, pf_sched_kinds_3), (fn_Pmodel_caller_exit, pf_Pmodel_caller_exit), (fn_Pmodel_caller_spawn, pf_Pmodel_caller_spawn), (fn_model_fine, pf_model_fine), (fn_Pmodel_caller_owns, pf_Pmodel_caller_owns), (fn_Pmodel_caller_gone, pf_Pmodel_caller_gone), (fn_Pmodel_caller_drops, pf_Pmodel_caller_drops), (fn_token_Tokens_Return, pf_token_Tokens_Return), (fn_mail_Box_Drain, pf_mail_Box_Drain), (fn_own_Owns_Roots, pf_own_Owns_Roots), (fn_own_Owns_those, pf_own_Owns_those), (fn_own_Owns_Held_1, pf_own_Owns_Held_1), (fn_own_bit, pf_own_bit), (fn_own_Owns_Give, pf_own_Owns_Give), (fn_token_Tokens_Clear, pf_token_Tokens_Clear), (fn_forest_Fell, pf_forest_Fell), (fn_own_Owns_say, pf_own_Owns_say), (fn_own_Owns_held, pf_own_Owns_held), (fn_own_Owns_Drop, pf_own_Owns_Drop), (fn_token_Tokens_Return_1, pf_token_Tokens_Return_1), (fn_token_Tokens_Return_1_1, pf_token_Tokens_Return_1_1), (fn_token_Tokens_without, pf_token_Tokens_without), (fn_own_Owns_Roots_1, pf_own_Owns_Roots_1), (fn_token_Tokens_On, pf_token_Tokens_On), (fn_table_Table_Drop, pf_table_Table_Drop), (fn_math_bits_OnesCount8, pf_math_bits_OnesCount8), (fn_handle_Book_Void, pf_handle_Book_Void), (fn_token_Tokens_On_1, pf_token_Tokens_On_1)]

theorem ok_law25_SchedGaps : OkF Tryz.prog fn_law25_SchedGaps pf_law25_SchedGaps := ⟨false, Tryz.f4, Tryz.func4, by kernel_rfl⟩
theorem ok_law25_wakes : OkF Tryz.prog fn_law25_wakes pf_law25_wakes := ⟨false, Tryz.f12, Tryz.func12, by kernel_rfl⟩
theorem ok_sched_Policy_Next : OkF Tryz.prog fn_sched_Policy_Next pf_sched_Policy_Next := ⟨false, Tryz.f13, Tryz.func13, by kernel_rfl⟩
theorem ok_sched_Gap : OkF Tryz.prog fn_sched_Gap pf_sched_Gap := ⟨false, Tryz.f14, Tryz.func14, by kernel_rfl⟩
theorem ok_ref25_Gap : OkF Tryz.prog fn_ref25_Gap pf_ref25_Gap := ⟨false, Tryz.f15, Tryz.func15, by kernel_rfl⟩
theorem ok_model_Begin : OkF Tryz.prog fn_model_Begin pf_model_Begin := ⟨false, Tryz.f23, Tryz.func23, by kernel_rfl⟩
theorem ok_machine_New : OkF Tryz.prog fn_machine_New pf_machine_New := ⟨false, Tryz.f28, Tryz.func28, by kernel_rfl⟩
theorem ok_Pmachine_Machine_Pick : OkF Tryz.prog fn_Pmachine_Machine_Pick pf_Pmachine_Machine_Pick := ⟨false, Tryz.f29, Tryz.func29, by kernel_rfl⟩
theorem ok_sched_Policy_May : OkF Tryz.prog fn_sched_Policy_May pf_sched_Policy_May := ⟨false, Tryz.f30, Tryz.func30, by kernel_rfl⟩
theorem ok_Pmachine_Machine_Ready : OkF Tryz.prog fn_Pmachine_Machine_Ready pf_Pmachine_Machine_Ready := ⟨false, Tryz.f31, Tryz.func31, by kernel_rfl⟩
theorem ok_Pmachine_Machine_Core : OkF Tryz.prog fn_Pmachine_Machine_Core pf_Pmachine_Machine_Core := ⟨false, Tryz.f32, Tryz.func32, by kernel_rfl⟩
theorem ok_runs_Runs_Has : OkF Tryz.prog fn_runs_Runs_Has pf_runs_Runs_Has := ⟨false, Tryz.f51, Tryz.func51, by kernel_rfl⟩
theorem ok_script_Script_May : OkF Tryz.prog fn_script_Script_May pf_script_Script_May := ⟨false, Tryz.f56, Tryz.func56, by kernel_rfl⟩
theorem ok_call_New : OkF Tryz.prog fn_call_New pf_call_New := ⟨false, Tryz.f57, Tryz.func57, by kernel_rfl⟩
theorem ok_task_Of : OkF Tryz.prog fn_task_Of pf_task_Of := ⟨false, Tryz.f58, Tryz.func58, by kernel_rfl⟩
theorem ok_Pcall_Core_Reap : OkF Tryz.prog fn_Pcall_Core_Reap pf_Pcall_Core_Reap := ⟨false, Tryz.f59, Tryz.func59, by kernel_rfl⟩
theorem ok_Pmachine_Machine_alive : OkF Tryz.prog fn_Pmachine_Machine_alive pf_Pmachine_Machine_alive := ⟨false, Tryz.f60, Tryz.func60, by kernel_rfl⟩
theorem ok_Pmachine_Machine_slays : OkF Tryz.prog fn_Pmachine_Machine_slays pf_Pmachine_Machine_slays := ⟨false, Tryz.f61, Tryz.func61, by kernel_rfl⟩
theorem ok_Pmachine_Machine_steps : OkF Tryz.prog fn_Pmachine_Machine_steps pf_Pmachine_Machine_steps := ⟨false, Tryz.f62, Tryz.func62, by kernel_rfl⟩
theorem ok_Pmachine_Machine_clear : OkF Tryz.prog fn_Pmachine_Machine_clear pf_Pmachine_Machine_clear := ⟨false, Tryz.f63, Tryz.func63, by kernel_rfl⟩
theorem ok_Pmachine_Machine_has : OkF Tryz.prog fn_Pmachine_Machine_has pf_Pmachine_Machine_has := ⟨false, Tryz.f64, Tryz.func64, by kernel_rfl⟩
theorem ok_Pmachine_Machine_waits : OkF Tryz.prog fn_Pmachine_Machine_waits pf_Pmachine_Machine_waits := ⟨false, Tryz.f65, Tryz.func65, by kernel_rfl⟩
theorem ok_slices_Clone_int_int : OkF Tryz.prog fn_slices_Clone_int_int pf_slices_Clone_int_int := ⟨false, Tryz.f66, Tryz.func66, by kernel_rfl⟩
theorem ok_model_State_Do : OkF Tryz.prog fn_model_State_Do pf_model_State_Do := ⟨false, Tryz.f68, Tryz.func68, by kernel_rfl⟩
theorem ok_mail_Box_All : OkF Tryz.prog fn_mail_Box_All pf_mail_Box_All := ⟨false, Tryz.f72, Tryz.func72, by kernel_rfl⟩
theorem ok_table_book_All : OkF Tryz.prog fn_table_book_All pf_table_book_All := ⟨false, Tryz.f73, Tryz.func73, by kernel_rfl⟩
theorem ok_table_Table_Get : OkF Tryz.prog fn_table_Table_Get pf_table_Table_Get := ⟨false, Tryz.f74, Tryz.func74, by kernel_rfl⟩
theorem ok_extent_Extent_Place : OkF Tryz.prog fn_extent_Extent_Place pf_extent_Extent_Place := ⟨false, Tryz.f75, Tryz.func75, by kernel_rfl⟩
theorem ok_Ppool_Pool_Read : OkF Tryz.prog fn_Ppool_Pool_Read pf_Ppool_Pool_Read := ⟨false, Tryz.f76, Tryz.func76, by kernel_rfl⟩
theorem ok_Pmachine_Machine_Under : OkF Tryz.prog fn_Pmachine_Machine_Under pf_Pmachine_Machine_Under := ⟨false, Tryz.f83, Tryz.func83, by kernel_rfl⟩
theorem ok_runs_Run_may : OkF Tryz.prog fn_runs_Run_may pf_runs_Run_may := ⟨false, Tryz.f88, Tryz.func88, by kernel_rfl⟩
theorem ok_slices_ContainsFunc_runs_Run_runs_Run : OkF Tryz.prog fn_slices_ContainsFunc_runs_Run_runs_Run pf_slices_ContainsFunc_runs_Run_runs_Run := ⟨false, Tryz.f89, Tryz.func89, by kernel_rfl⟩
theorem ok_runs_Runs_Has_1 : OkF Tryz.prog fn_runs_Runs_Has_1 pf_runs_Runs_Has_1 := ⟨false, Tryz.f90, Tryz.func90, by kernel_rfl⟩
theorem ok_runs_Run_holds : OkF Tryz.prog fn_runs_Run_holds pf_runs_Run_holds := ⟨false, Tryz.f91, Tryz.func91, by kernel_rfl⟩
theorem ok_script_Script_May_1 : OkF Tryz.prog fn_script_Script_May_1 pf_script_Script_May_1 := ⟨false, Tryz.f97, Tryz.func97, by kernel_rfl⟩
theorem ok_code_Decode : OkF Tryz.prog fn_code_Decode pf_code_Decode := ⟨false, Tryz.f98, Tryz.func98, by kernel_rfl⟩
theorem ok_slices_ContainsFunc_string_string : OkF Tryz.prog fn_slices_ContainsFunc_string_string pf_slices_ContainsFunc_string_string := ⟨false, Tryz.f99, Tryz.func99, by kernel_rfl⟩
theorem ok_slices_ContainsFunc_uint8_uint8 : OkF Tryz.prog fn_slices_ContainsFunc_uint8_uint8 pf_slices_ContainsFunc_uint8_uint8 := ⟨false, Tryz.f100, Tryz.func100, by kernel_rfl⟩
theorem ok_script_Script_May_2 : OkF Tryz.prog fn_script_Script_May_2 pf_script_Script_May_2 := ⟨false, Tryz.f101, Tryz.func101, by kernel_rfl⟩
theorem ok_script_pick : OkF Tryz.prog fn_script_pick pf_script_pick := ⟨false, Tryz.f102, Tryz.func102, by kernel_rfl⟩
theorem ok_pool_New : OkF Tryz.prog fn_pool_New pf_pool_New := ⟨false, Tryz.f103, Tryz.func103, by kernel_rfl⟩
theorem ok_Ppool_Pool_Back : OkF Tryz.prog fn_Ppool_Pool_Back pf_Ppool_Pool_Back := ⟨false, Tryz.f104, Tryz.func104, by kernel_rfl⟩
theorem ok_task_Task_Wants : OkF Tryz.prog fn_task_Task_Wants pf_task_Task_Wants := ⟨false, Tryz.f105, Tryz.func105, by kernel_rfl⟩
theorem ok_Pmachine_Machine_calls : OkF Tryz.prog fn_Pmachine_Machine_calls pf_Pmachine_Machine_calls := ⟨false, Tryz.f106, Tryz.func106, by kernel_rfl⟩
theorem ok_task_Task_Step : OkF Tryz.prog fn_task_Task_Step pf_task_Task_Step := ⟨false, Tryz.f107, Tryz.func107, by kernel_rfl⟩
theorem ok_Pcall_Core_Cut : OkF Tryz.prog fn_Pcall_Core_Cut pf_Pcall_Core_Cut := ⟨false, Tryz.f108, Tryz.func108, by kernel_rfl⟩
theorem ok_plan_Waits : OkF Tryz.prog fn_plan_Waits pf_plan_Waits := ⟨false, Tryz.f109, Tryz.func109, by kernel_rfl⟩
theorem ok_model_State_Needs : OkF Tryz.prog fn_model_State_Needs pf_model_State_Needs := ⟨false, Tryz.f110, Tryz.func110, by kernel_rfl⟩
theorem okD_Pmodel_caller_calls : prepD Tryz.prog false Tryz.f111 = some pd_Pmodel_caller_calls := by kernel_rfl
theorem ok_own_Owns_Of : OkF Tryz.prog fn_own_Owns_Of pf_own_Owns_Of := ⟨false, Tryz.f112, Tryz.func112, by kernel_rfl⟩
theorem ok_token_Tokens_Of : OkF Tryz.prog fn_token_Tokens_Of pf_token_Tokens_Of := ⟨false, Tryz.f114, Tryz.func114, by kernel_rfl⟩
theorem ok_handle_Handle_Slot : OkF Tryz.prog fn_handle_Handle_Slot pf_handle_Handle_Slot := ⟨false, Tryz.f115, Tryz.func115, by kernel_rfl⟩
theorem ok_token_Tokens_Get : OkF Tryz.prog fn_token_Tokens_Get pf_token_Tokens_Get := ⟨false, Tryz.f116, Tryz.func116, by kernel_rfl⟩
theorem ok_mail_Box_each : OkF Tryz.prog fn_mail_Box_each pf_mail_Box_each := ⟨false, Tryz.f118, Tryz.func118, by kernel_rfl⟩
theorem ok_slices_Clip_mail_Message_mail_Message : OkF Tryz.prog fn_slices_Clip_mail_Message_mail_Message pf_slices_Clip_mail_Message_mail_Message := ⟨false, Tryz.f119, Tryz.func119, by kernel_rfl⟩
theorem ok_handle_Book_Issued : OkF Tryz.prog fn_handle_Book_Issued pf_handle_Book_Issued := ⟨false, Tryz.f120, Tryz.func120, by kernel_rfl⟩
theorem ok_handle_Book_Good : OkF Tryz.prog fn_handle_Book_Good pf_handle_Book_Good := ⟨false, Tryz.f121, Tryz.func121, by kernel_rfl⟩
theorem ok_table_Table_up : OkF Tryz.prog fn_table_Table_up pf_table_Table_up := ⟨false, Tryz.f122, Tryz.func122, by kernel_rfl⟩
theorem ok_extent_Extent_chunks : OkF Tryz.prog fn_extent_Extent_chunks pf_extent_Extent_chunks := ⟨false, Tryz.f123, Tryz.func123, by kernel_rfl⟩
theorem ok_Ppool_Pool_byte : OkF Tryz.prog fn_Ppool_Pool_byte pf_Ppool_Pool_byte := ⟨false, Tryz.f124, Tryz.func124, by kernel_rfl⟩
theorem ok_Ppool_Pool_Read_1 : OkF Tryz.prog fn_Ppool_Pool_Read_1 pf_Ppool_Pool_Read_1 := ⟨false, Tryz.f125, Tryz.func125, by kernel_rfl⟩
theorem ok_slices_Clone_handle_Handle_handle_Handle : OkF Tryz.prog fn_slices_Clone_handle_Handle_handle_Handle pf_slices_Clone_handle_Handle_handle_Handle := ⟨false, Tryz.f130, Tryz.func130, by kernel_rfl⟩
theorem ok_mark_may : OkF Tryz.prog fn_mark_may pf_mark_may := ⟨false, Tryz.f131, Tryz.func131, by kernel_rfl⟩
theorem ok_slices_IndexFunc_runs_Run_runs_Run : OkF Tryz.prog fn_slices_IndexFunc_runs_Run_runs_Run pf_slices_IndexFunc_runs_Run_runs_Run := ⟨false, Tryz.f132, Tryz.func132, by kernel_rfl⟩
theorem ok_runs_Run_end : OkF Tryz.prog fn_runs_Run_end pf_runs_Run_end := ⟨false, Tryz.f133, Tryz.func133, by kernel_rfl⟩
theorem ok_code_May : OkF Tryz.prog fn_code_May pf_code_May := ⟨false, Tryz.f141, Tryz.func141, by kernel_rfl⟩
theorem ok_slices_IndexFunc_string_string : OkF Tryz.prog fn_slices_IndexFunc_string_string pf_slices_IndexFunc_string_string := ⟨false, Tryz.f142, Tryz.func142, by kernel_rfl⟩
theorem ok_slices_IndexFunc_uint8_uint8 : OkF Tryz.prog fn_slices_IndexFunc_uint8_uint8 pf_slices_IndexFunc_uint8_uint8 := ⟨false, Tryz.f143, Tryz.func143, by kernel_rfl⟩
theorem ok_runs_Of : OkF Tryz.prog fn_runs_Of pf_runs_Of := ⟨false, Tryz.f144, Tryz.func144, by kernel_rfl⟩
theorem ok_Ppool_Pool_lent : OkF Tryz.prog fn_Ppool_Pool_lent pf_Ppool_Pool_lent := ⟨false, Tryz.f145, Tryz.func145, by kernel_rfl⟩
theorem ok_Ppool_Pool_Back_1 : OkF Tryz.prog fn_Ppool_Pool_Back_1 pf_Ppool_Pool_Back_1 := ⟨false, Tryz.f146, Tryz.func146, by kernel_rfl⟩
theorem ok_runs_Runs_Give : OkF Tryz.prog fn_runs_Runs_Give pf_runs_Runs_Give := ⟨false, Tryz.f147, Tryz.func147, by kernel_rfl⟩
theorem ok_task_Task_instr : OkF Tryz.prog fn_task_Task_instr pf_task_Task_instr := ⟨false, Tryz.f148, Tryz.func148, by kernel_rfl⟩
theorem ok_task_Task_reg : OkF Tryz.prog fn_task_Task_reg pf_task_Task_reg := ⟨false, Tryz.f149, Tryz.func149, by kernel_rfl⟩
theorem ok_Pcall_Core_Step : OkF Tryz.prog fn_Pcall_Core_Step pf_Pcall_Core_Step := ⟨false, Tryz.f150, Tryz.func150, by kernel_rfl⟩
theorem ok_Pmachine_Machine_ended : OkF Tryz.prog fn_Pmachine_Machine_ended pf_Pmachine_Machine_ended := ⟨false, Tryz.f151, Tryz.func151, by kernel_rfl⟩
theorem ok_machine_handed : OkF Tryz.prog fn_machine_handed pf_machine_handed := ⟨false, Tryz.f152, Tryz.func152, by kernel_rfl⟩
theorem ok_task_Task_Step_1 : OkF Tryz.prog fn_task_Task_Step_1 pf_task_Task_Step_1 := ⟨false, Tryz.f153, Tryz.func153, by kernel_rfl⟩
theorem ok_task_Task_Step_2 : OkF Tryz.prog fn_task_Task_Step_2 pf_task_Task_Step_2 := ⟨false, Tryz.f154, Tryz.func154, by kernel_rfl⟩
theorem ok_task_Task_Step_3 : OkF Tryz.prog fn_task_Task_Step_3 pf_task_Task_Step_3 := ⟨false, Tryz.f155, Tryz.func155, by kernel_rfl⟩
theorem ok_task_Task_Step_4 : OkF Tryz.prog fn_task_Task_Step_4 pf_task_Task_Step_4 := ⟨false, Tryz.f156, Tryz.func156, by kernel_rfl⟩
theorem ok_task_Task_Step_5 : OkF Tryz.prog fn_task_Task_Step_5 pf_task_Task_Step_5 := ⟨false, Tryz.f157, Tryz.func157, by kernel_rfl⟩
theorem ok_task_Task_Step_6 : OkF Tryz.prog fn_task_Task_Step_6 pf_task_Task_Step_6 := ⟨false, Tryz.f158, Tryz.func158, by kernel_rfl⟩
theorem ok_Pcall_Core_queue : OkF Tryz.prog fn_Pcall_Core_queue pf_Pcall_Core_queue := ⟨false, Tryz.f159, Tryz.func159, by kernel_rfl⟩
theorem ok_mark_Marks_Gone : OkF Tryz.prog fn_mark_Marks_Gone pf_mark_Marks_Gone := ⟨false, Tryz.f160, Tryz.func160, by kernel_rfl⟩
theorem ok_plan_Check : OkF Tryz.prog fn_plan_Check pf_plan_Check := ⟨false, Tryz.f161, Tryz.func161, by kernel_rfl⟩
theorem okR_Pmodel_caller_calls_1 : prepR Tryz.prog false Tryz.f162 = some pr_Pmodel_caller_calls_1 := by kernel_rfl
theorem ok_model_ask : OkF Tryz.prog fn_model_ask pf_model_ask := ⟨false, Tryz.f163, Tryz.func163, by kernel_rfl⟩
theorem ok_forest_Root : OkF Tryz.prog fn_forest_Root pf_forest_Root := ⟨false, Tryz.f164, Tryz.func164, by kernel_rfl⟩
theorem ok_token_Tokens_those : OkF Tryz.prog fn_token_Tokens_those pf_token_Tokens_those := ⟨false, Tryz.f167, Tryz.func167, by kernel_rfl⟩
theorem ok_token_Tokens_Of_1 : OkF Tryz.prog fn_token_Tokens_Of_1 pf_token_Tokens_Of_1 := ⟨false, Tryz.f168, Tryz.func168, by kernel_rfl⟩
theorem ok_mail_Box_each_1 : OkF Tryz.prog fn_mail_Box_each_1 pf_mail_Box_each_1 := ⟨false, Tryz.f170, Tryz.func170, by kernel_rfl⟩
theorem ok_mail_Box_at : OkF Tryz.prog fn_mail_Box_at pf_mail_Box_at := ⟨false, Tryz.f171, Tryz.func171, by kernel_rfl⟩
theorem ok_handle_Book_At : OkF Tryz.prog fn_handle_Book_At pf_handle_Book_At := ⟨false, Tryz.f172, Tryz.func172, by kernel_rfl⟩
theorem ok_extent_Extent_chunks_1 : OkF Tryz.prog fn_extent_Extent_chunks_1 pf_extent_Extent_chunks_1 := ⟨false, Tryz.f173, Tryz.func173, by kernel_rfl⟩
theorem ok_Ppool_Pool_byte_1 : OkF Tryz.prog fn_Ppool_Pool_byte_1 pf_Ppool_Pool_byte_1 := ⟨false, Tryz.f174, Tryz.func174, by kernel_rfl⟩
theorem ok_slices_ContainsFunc_code_Instr_code_Instr : OkF Tryz.prog fn_slices_ContainsFunc_code_Instr_code_Instr pf_slices_ContainsFunc_code_Instr_code_Instr := ⟨false, Tryz.f182, Tryz.func182, by kernel_rfl⟩
theorem ok_code_May_1 : OkF Tryz.prog fn_code_May_1 pf_code_May_1 := ⟨false, Tryz.f183, Tryz.func183, by kernel_rfl⟩
theorem ok_code_Instr_may : OkF Tryz.prog fn_code_Instr_may pf_code_Instr_may := ⟨false, Tryz.f184, Tryz.func184, by kernel_rfl⟩
theorem ok_runs_Runs_each : OkF Tryz.prog fn_runs_Runs_each pf_runs_Runs_each := ⟨false, Tryz.f185, Tryz.func185, by kernel_rfl⟩
theorem ok_Pcall_stepper_check : OkF Tryz.prog fn_Pcall_stepper_check pf_Pcall_stepper_check := ⟨false, Tryz.f186, Tryz.func186, by kernel_rfl⟩
theorem ok_Pcall_stepper_marks : OkF Tryz.prog fn_Pcall_stepper_marks pf_Pcall_stepper_marks := ⟨false, Tryz.f187, Tryz.func187, by kernel_rfl⟩
theorem ok_Pcall_stepper_claims : OkF Tryz.prog fn_Pcall_stepper_claims pf_Pcall_stepper_claims := ⟨false, Tryz.f188, Tryz.func188, by kernel_rfl⟩
theorem ok_Pcall_stepper_clears : OkF Tryz.prog fn_Pcall_stepper_clears pf_Pcall_stepper_clears := ⟨false, Tryz.f189, Tryz.func189, by kernel_rfl⟩
theorem ok_Pcall_stepper_commits : OkF Tryz.prog fn_Pcall_stepper_commits pf_Pcall_stepper_commits := ⟨false, Tryz.f190, Tryz.func190, by kernel_rfl⟩
theorem ok_task_Task_Takes : OkF Tryz.prog fn_task_Task_Takes pf_task_Task_Takes := ⟨false, Tryz.f191, Tryz.func191, by kernel_rfl⟩
theorem ok_mark_Marks_Free : OkF Tryz.prog fn_mark_Marks_Free pf_mark_Marks_Free := ⟨false, Tryz.f192, Tryz.func192, by kernel_rfl⟩
theorem ok_mark_line_without : OkF Tryz.prog fn_mark_line_without pf_mark_line_without := ⟨false, Tryz.f193, Tryz.func193, by kernel_rfl⟩
theorem ok_forest_above : OkF Tryz.prog fn_forest_above pf_forest_above := ⟨false, Tryz.f194, Tryz.func194, by kernel_rfl⟩
theorem ok_handle_of : OkF Tryz.prog fn_handle_of pf_handle_of := ⟨false, Tryz.f195, Tryz.func195, by kernel_rfl⟩
theorem ok_slices_IndexFunc_code_Instr_code_Instr : OkF Tryz.prog fn_slices_IndexFunc_code_Instr_code_Instr pf_slices_IndexFunc_code_Instr_code_Instr := ⟨false, Tryz.f204, Tryz.func204, by kernel_rfl⟩
theorem ok_slices_All_runs_Run_runs_Run : OkF Tryz.prog fn_slices_All_runs_Run_runs_Run pf_slices_All_runs_Run_runs_Run := ⟨false, Tryz.f205, Tryz.func205, by kernel_rfl⟩
theorem ok_Pcall_stepper_ends : OkF Tryz.prog fn_Pcall_stepper_ends pf_Pcall_stepper_ends := ⟨false, Tryz.f206, Tryz.func206, by kernel_rfl⟩
theorem ok_plan_Regions : OkF Tryz.prog fn_plan_Regions pf_plan_Regions := ⟨false, Tryz.f207, Tryz.func207, by kernel_rfl⟩
theorem ok_mark_Marks_Try : OkF Tryz.prog fn_mark_Marks_Try pf_mark_Marks_Try := ⟨false, Tryz.f208, Tryz.func208, by kernel_rfl⟩
theorem ok_Ppool_Pool_Claim : OkF Tryz.prog fn_Ppool_Pool_Claim pf_Ppool_Pool_Claim := ⟨false, Tryz.f209, Tryz.func209, by kernel_rfl⟩
theorem ok_Ppool_Pool_Clear : OkF Tryz.prog fn_Ppool_Pool_Clear pf_Ppool_Pool_Clear := ⟨false, Tryz.f210, Tryz.func210, by kernel_rfl⟩
theorem ok_model_State_Place : OkF Tryz.prog fn_model_State_Place pf_model_State_Place := ⟨false, Tryz.f211, Tryz.func211, by kernel_rfl⟩
theorem ok_Pcall_stepper_bytes : OkF Tryz.prog fn_Pcall_stepper_bytes pf_Pcall_stepper_bytes := ⟨false, Tryz.f212, Tryz.func212, by kernel_rfl⟩
theorem ok_Pcall_stepper_commits_1 : OkF Tryz.prog fn_Pcall_stepper_commits_1 pf_Pcall_stepper_commits_1 := ⟨false, Tryz.f213, Tryz.func213, by kernel_rfl⟩
theorem ok_Ppool_Pool_Write : OkF Tryz.prog fn_Ppool_Pool_Write pf_Ppool_Pool_Write := ⟨false, Tryz.f214, Tryz.func214, by kernel_rfl⟩
theorem ok_Pcall_stepper_commits_2 : OkF Tryz.prog fn_Pcall_stepper_commits_2 pf_Pcall_stepper_commits_2 := ⟨false, Tryz.f215, Tryz.func215, by kernel_rfl⟩
theorem ok_mark_line_place : OkF Tryz.prog fn_mark_line_place pf_mark_line_place := ⟨false, Tryz.f216, Tryz.func216, by kernel_rfl⟩
theorem ok_forest_above_1 : OkF Tryz.prog fn_forest_above_1 pf_forest_above_1 := ⟨false, Tryz.f217, Tryz.func217, by kernel_rfl⟩
theorem ok_slices_All_runs_Run_runs_Run_1 : OkF Tryz.prog fn_slices_All_runs_Run_runs_Run_1 pf_slices_All_runs_Run_runs_Run_1 := ⟨false, Tryz.f224, Tryz.func224, by kernel_rfl⟩
theorem ok_plan_Regions_1 : OkF Tryz.prog fn_plan_Regions_1 pf_plan_Regions_1 := ⟨false, Tryz.f225, Tryz.func225, by kernel_rfl⟩
theorem ok_plan_one : OkF Tryz.prog fn_plan_one pf_plan_one := ⟨false, Tryz.f226, Tryz.func226, by kernel_rfl⟩
theorem ok_plan_Regions_2 : OkF Tryz.prog fn_plan_Regions_2 pf_plan_Regions_2 := ⟨false, Tryz.f227, Tryz.func227, by kernel_rfl⟩
theorem ok_forest_Under : OkF Tryz.prog fn_forest_Under pf_forest_Under := ⟨false, Tryz.f228, Tryz.func228, by kernel_rfl⟩
theorem ok_plan_Regions_3 : OkF Tryz.prog fn_plan_Regions_3 pf_plan_Regions_3 := ⟨false, Tryz.f229, Tryz.func229, by kernel_rfl⟩
theorem ok_slices_Contains_handle_Handle_handle_Handle : OkF Tryz.prog fn_slices_Contains_handle_Handle_handle_Handle pf_slices_Contains_handle_Handle_handle_Handle := ⟨false, Tryz.f230, Tryz.func230, by kernel_rfl⟩
theorem ok_plan_Regions_4 : OkF Tryz.prog fn_plan_Regions_4 pf_plan_Regions_4 := ⟨false, Tryz.f231, Tryz.func231, by kernel_rfl⟩
theorem ok_plan_Regions_5 : OkF Tryz.prog fn_plan_Regions_5 pf_plan_Regions_5 := ⟨false, Tryz.f232, Tryz.func232, by kernel_rfl⟩
theorem ok_runs_Runs_Find : OkF Tryz.prog fn_runs_Runs_Find pf_runs_Runs_Find := ⟨false, Tryz.f233, Tryz.func233, by kernel_rfl⟩
theorem ok_runs_Runs_Take : OkF Tryz.prog fn_runs_Runs_Take pf_runs_Runs_Take := ⟨false, Tryz.f234, Tryz.func234, by kernel_rfl⟩
theorem ok_Ppool_Pool_Clear_1 : OkF Tryz.prog fn_Ppool_Pool_Clear_1 pf_Ppool_Pool_Clear_1 := ⟨false, Tryz.f235, Tryz.func235, by kernel_rfl⟩
theorem ok_slices_Clip_int_int : OkF Tryz.prog fn_slices_Clip_int_int pf_slices_Clip_int_int := ⟨false, Tryz.f236, Tryz.func236, by kernel_rfl⟩
theorem ok_Ppool_Pool_Write_1 : OkF Tryz.prog fn_Ppool_Pool_Write_1 pf_Ppool_Pool_Write_1 := ⟨false, Tryz.f237, Tryz.func237, by kernel_rfl⟩
theorem ok_slices_Index_uint8_uint8 : OkF Tryz.prog fn_slices_Index_uint8_uint8 pf_slices_Index_uint8_uint8 := ⟨false, Tryz.f238, Tryz.func238, by kernel_rfl⟩
theorem ok_slices_Collect_handle_Handle : OkF Tryz.prog fn_slices_Collect_handle_Handle pf_slices_Collect_handle_Handle := ⟨false, Tryz.f241, Tryz.func241, by kernel_rfl⟩
theorem ok_forest_under : OkF Tryz.prog fn_forest_under pf_forest_under := ⟨false, Tryz.f242, Tryz.func242, by kernel_rfl⟩
theorem ok_slices_Index_handle_Handle_handle_Handle : OkF Tryz.prog fn_slices_Index_handle_Handle_handle_Handle pf_slices_Index_handle_Handle_handle_Handle := ⟨false, Tryz.f243, Tryz.func243, by kernel_rfl⟩
theorem ok_runs_Runs_Take_1 : OkF Tryz.prog fn_runs_Runs_Take_1 pf_runs_Runs_Take_1 := ⟨false, Tryz.f244, Tryz.func244, by kernel_rfl⟩
theorem ok_slices_Concat_runs_Run_runs_Run : OkF Tryz.prog fn_slices_Concat_runs_Run_runs_Run pf_slices_Concat_runs_Run_runs_Run := ⟨false, Tryz.f245, Tryz.func245, by kernel_rfl⟩
theorem ok_slices_AppendSeq_handle_Handle_handle_Handle : OkF Tryz.prog fn_slices_AppendSeq_handle_Handle_handle_Handle pf_slices_AppendSeq_handle_Handle_handle_Handle := ⟨false, Tryz.f246, Tryz.func246, by kernel_rfl⟩
theorem ok_forest_under_1 : OkF Tryz.prog fn_forest_under_1 pf_forest_under_1 := ⟨false, Tryz.f247, Tryz.func247, by kernel_rfl⟩
theorem ok_forest_Kids : OkF Tryz.prog fn_forest_Kids pf_forest_Kids := ⟨false, Tryz.f248, Tryz.func248, by kernel_rfl⟩
theorem ok_slices_Reverse_handle_Handle_handle_Handle : OkF Tryz.prog fn_slices_Reverse_handle_Handle_handle_Handle pf_slices_Reverse_handle_Handle_handle_Handle := ⟨false, Tryz.f249, Tryz.func249, by kernel_rfl⟩
theorem ok_slices_DeleteFunc_handle_Handle_handle_Handle : OkF Tryz.prog fn_slices_DeleteFunc_handle_Handle_handle_Handle pf_slices_DeleteFunc_handle_Handle_handle_Handle := ⟨false, Tryz.f251, Tryz.func251, by kernel_rfl⟩
theorem ok_forest_Kids_1 : OkF Tryz.prog fn_forest_Kids_1 pf_forest_Kids_1 := ⟨false, Tryz.f252, Tryz.func252, by kernel_rfl⟩
theorem ok_slices_IndexFunc_handle_Handle_handle_Handle : OkF Tryz.prog fn_slices_IndexFunc_handle_Handle_handle_Handle pf_slices_IndexFunc_handle_Handle_handle_Handle := ⟨false, Tryz.f253, Tryz.func253, by kernel_rfl⟩
theorem ok_own_Owns_Held : OkF Tryz.prog fn_own_Owns_Held pf_own_Owns_Held := ⟨false, Tryz.f271, Tryz.func271, by kernel_rfl⟩
theorem ok_Pmodel_caller_dies : OkF Tryz.prog fn_Pmodel_caller_dies pf_Pmodel_caller_dies := ⟨false, Tryz.f275, Tryz.func275, by kernel_rfl⟩
theorem ok_sched_kinds_1 : OkF Tryz.prog fn_sched_kinds_1 pf_sched_kinds_1 := ⟨false, Tryz.f277, Tryz.func277, by kernel_rfl⟩
theorem ok_sched_kinds_1_1 : OkF Tryz.prog fn_sched_kinds_1_1 pf_sched_kinds_1_1 := ⟨false, Tryz.f278, Tryz.func278, by kernel_rfl⟩
theorem ok_sched_kinds_2 : OkF Tryz.prog fn_sched_kinds_2 pf_sched_kinds_2 := ⟨false, Tryz.f279, Tryz.func279, by kernel_rfl⟩
theorem ok_slices_Contains_uint8_uint8 : OkF Tryz.prog fn_slices_Contains_uint8_uint8 pf_slices_Contains_uint8_uint8 := ⟨false, Tryz.f280, Tryz.func280, by kernel_rfl⟩
theorem ok_sched_kinds_3 : OkF Tryz.prog fn_sched_kinds_3 pf_sched_kinds_3 := ⟨false, Tryz.f281, Tryz.func281, by kernel_rfl⟩
theorem ok_Pmodel_caller_exit : OkF Tryz.prog fn_Pmodel_caller_exit pf_Pmodel_caller_exit := ⟨false, Tryz.f300, Tryz.func300, by kernel_rfl⟩
theorem ok_Pmodel_caller_spawn : OkF Tryz.prog fn_Pmodel_caller_spawn pf_Pmodel_caller_spawn := ⟨false, Tryz.f302, Tryz.func302, by kernel_rfl⟩
theorem ok_model_fine : OkF Tryz.prog fn_model_fine pf_model_fine := ⟨false, Tryz.f305, Tryz.func305, by kernel_rfl⟩
theorem ok_Pmodel_caller_owns : OkF Tryz.prog fn_Pmodel_caller_owns pf_Pmodel_caller_owns := ⟨false, Tryz.f306, Tryz.func306, by kernel_rfl⟩
theorem ok_Pmodel_caller_gone : OkF Tryz.prog fn_Pmodel_caller_gone pf_Pmodel_caller_gone := ⟨false, Tryz.f316, Tryz.func316, by kernel_rfl⟩
theorem ok_Pmodel_caller_drops : OkF Tryz.prog fn_Pmodel_caller_drops pf_Pmodel_caller_drops := ⟨false, Tryz.f323, Tryz.func323, by kernel_rfl⟩
theorem ok_token_Tokens_Return : OkF Tryz.prog fn_token_Tokens_Return pf_token_Tokens_Return := ⟨false, Tryz.f324, Tryz.func324, by kernel_rfl⟩
theorem ok_mail_Box_Drain : OkF Tryz.prog fn_mail_Box_Drain pf_mail_Box_Drain := ⟨false, Tryz.f331, Tryz.func331, by kernel_rfl⟩
theorem ok_own_Owns_Roots : OkF Tryz.prog fn_own_Owns_Roots pf_own_Owns_Roots := ⟨false, Tryz.f332, Tryz.func332, by kernel_rfl⟩
theorem ok_own_Owns_those : OkF Tryz.prog fn_own_Owns_those pf_own_Owns_those := ⟨false, Tryz.f333, Tryz.func333, by kernel_rfl⟩
theorem ok_own_Owns_Held_1 : OkF Tryz.prog fn_own_Owns_Held_1 pf_own_Owns_Held_1 := ⟨false, Tryz.f334, Tryz.func334, by kernel_rfl⟩
theorem ok_own_bit : OkF Tryz.prog fn_own_bit pf_own_bit := ⟨false, Tryz.f335, Tryz.func335, by kernel_rfl⟩
theorem ok_own_Owns_Give : OkF Tryz.prog fn_own_Owns_Give pf_own_Owns_Give := ⟨false, Tryz.f338, Tryz.func338, by kernel_rfl⟩
theorem ok_token_Tokens_Clear : OkF Tryz.prog fn_token_Tokens_Clear pf_token_Tokens_Clear := ⟨false, Tryz.f343, Tryz.func343, by kernel_rfl⟩
theorem ok_forest_Fell : OkF Tryz.prog fn_forest_Fell pf_forest_Fell := ⟨false, Tryz.f344, Tryz.func344, by kernel_rfl⟩
theorem ok_own_Owns_say : OkF Tryz.prog fn_own_Owns_say pf_own_Owns_say := ⟨false, Tryz.f349, Tryz.func349, by kernel_rfl⟩
theorem ok_own_Owns_held : OkF Tryz.prog fn_own_Owns_held pf_own_Owns_held := ⟨false, Tryz.f350, Tryz.func350, by kernel_rfl⟩
theorem ok_own_Owns_Drop : OkF Tryz.prog fn_own_Owns_Drop pf_own_Owns_Drop := ⟨false, Tryz.f351, Tryz.func351, by kernel_rfl⟩
theorem ok_token_Tokens_Return_1 : OkF Tryz.prog fn_token_Tokens_Return_1 pf_token_Tokens_Return_1 := ⟨false, Tryz.f352, Tryz.func352, by kernel_rfl⟩
theorem ok_token_Tokens_Return_1_1 : OkF Tryz.prog fn_token_Tokens_Return_1_1 pf_token_Tokens_Return_1_1 := ⟨false, Tryz.f353, Tryz.func353, by kernel_rfl⟩
theorem ok_token_Tokens_without : OkF Tryz.prog fn_token_Tokens_without pf_token_Tokens_without := ⟨false, Tryz.f354, Tryz.func354, by kernel_rfl⟩
theorem ok_own_Owns_Roots_1 : OkF Tryz.prog fn_own_Owns_Roots_1 pf_own_Owns_Roots_1 := ⟨false, Tryz.f359, Tryz.func359, by kernel_rfl⟩
theorem ok_token_Tokens_On : OkF Tryz.prog fn_token_Tokens_On pf_token_Tokens_On := ⟨false, Tryz.f368, Tryz.func368, by kernel_rfl⟩
theorem ok_table_Table_Drop : OkF Tryz.prog fn_table_Table_Drop pf_table_Table_Drop := ⟨false, Tryz.f370, Tryz.func370, by kernel_rfl⟩
theorem ok_math_bits_OnesCount8 : OkF Tryz.prog fn_math_bits_OnesCount8 pf_math_bits_OnesCount8 := ⟨false, Tryz.f372, Tryz.func372, by kernel_rfl⟩
theorem ok_handle_Book_Void : OkF Tryz.prog fn_handle_Book_Void pf_handle_Book_Void := ⟨false, Tryz.f373, Tryz.func373, by kernel_rfl⟩
theorem ok_token_Tokens_On_1 : OkF Tryz.prog fn_token_Tokens_On_1 pf_token_Tokens_On_1 := ⟨false, Tryz.f375, Tryz.func375, by kernel_rfl⟩

set_option maxRecDepth 100000 in
theorem codeT_ok : ∀ x ∈ codeT, OkF Tryz.prog x.1 x.2 := by
  unfold codeT
  simp only [List.forall_mem_cons]
  exact ⟨ok_law25_SchedGaps, ok_law25_wakes, ok_sched_Policy_Next, ok_sched_Gap, ok_ref25_Gap, ok_model_Begin, ok_machine_New, ok_Pmachine_Machine_Pick, ok_sched_Policy_May, ok_Pmachine_Machine_Ready, ok_Pmachine_Machine_Core, ok_runs_Runs_Has, ok_script_Script_May, ok_call_New, ok_task_Of, ok_Pcall_Core_Reap, ok_Pmachine_Machine_alive, ok_Pmachine_Machine_slays, ok_Pmachine_Machine_steps, ok_Pmachine_Machine_clear, ok_Pmachine_Machine_has, ok_Pmachine_Machine_waits, ok_slices_Clone_int_int, ok_model_State_Do, ok_mail_Box_All, ok_table_book_All, ok_table_Table_Get, ok_extent_Extent_Place, ok_Ppool_Pool_Read, ok_Pmachine_Machine_Under, ok_runs_Run_may, ok_slices_ContainsFunc_runs_Run_runs_Run, ok_runs_Runs_Has_1, ok_runs_Run_holds, ok_script_Script_May_1, ok_code_Decode, ok_slices_ContainsFunc_string_string, ok_slices_ContainsFunc_uint8_uint8, ok_script_Script_May_2, ok_script_pick, ok_pool_New, ok_Ppool_Pool_Back, ok_task_Task_Wants, ok_Pmachine_Machine_calls, ok_task_Task_Step, ok_Pcall_Core_Cut, ok_plan_Waits, ok_model_State_Needs, ok_own_Owns_Of, ok_token_Tokens_Of, ok_handle_Handle_Slot, ok_token_Tokens_Get, ok_mail_Box_each, ok_slices_Clip_mail_Message_mail_Message, ok_handle_Book_Issued, ok_handle_Book_Good, ok_table_Table_up, ok_extent_Extent_chunks, ok_Ppool_Pool_byte, ok_Ppool_Pool_Read_1, ok_slices_Clone_handle_Handle_handle_Handle, ok_mark_may, ok_slices_IndexFunc_runs_Run_runs_Run, ok_runs_Run_end, ok_code_May, ok_slices_IndexFunc_string_string, ok_slices_IndexFunc_uint8_uint8, ok_runs_Of, ok_Ppool_Pool_lent, ok_Ppool_Pool_Back_1, ok_runs_Runs_Give, ok_task_Task_instr, ok_task_Task_reg, ok_Pcall_Core_Step, ok_Pmachine_Machine_ended, ok_machine_handed, ok_task_Task_Step_1, ok_task_Task_Step_2, ok_task_Task_Step_3, ok_task_Task_Step_4, ok_task_Task_Step_5, ok_task_Task_Step_6, ok_Pcall_Core_queue, ok_mark_Marks_Gone, ok_plan_Check, ok_model_ask, ok_forest_Root, ok_token_Tokens_those, ok_token_Tokens_Of_1, ok_mail_Box_each_1, ok_mail_Box_at, ok_handle_Book_At, ok_extent_Extent_chunks_1, ok_Ppool_Pool_byte_1, ok_slices_ContainsFunc_code_Instr_code_Instr, ok_code_May_1, ok_code_Instr_may, ok_runs_Runs_each, ok_Pcall_stepper_check, ok_Pcall_stepper_marks, ok_Pcall_stepper_claims, ok_Pcall_stepper_clears, ok_Pcall_stepper_commits, ok_task_Task_Takes, ok_mark_Marks_Free, ok_mark_line_without, ok_forest_above, ok_handle_of, ok_slices_IndexFunc_code_Instr_code_Instr, ok_slices_All_runs_Run_runs_Run, ok_Pcall_stepper_ends, ok_plan_Regions, ok_mark_Marks_Try, ok_Ppool_Pool_Claim, ok_Ppool_Pool_Clear, ok_model_State_Place, ok_Pcall_stepper_bytes, ok_Pcall_stepper_commits_1, ok_Ppool_Pool_Write, ok_Pcall_stepper_commits_2, ok_mark_line_place, ok_forest_above_1, ok_slices_All_runs_Run_runs_Run_1, ok_plan_Regions_1, ok_plan_one, ok_plan_Regions_2, ok_forest_Under, ok_plan_Regions_3, ok_slices_Contains_handle_Handle_handle_Handle, ok_plan_Regions_4, ok_plan_Regions_5, ok_runs_Runs_Find, ok_runs_Runs_Take, ok_Ppool_Pool_Clear_1, ok_slices_Clip_int_int, ok_Ppool_Pool_Write_1, ok_slices_Index_uint8_uint8, ok_slices_Collect_handle_Handle, ok_forest_under, ok_slices_Index_handle_Handle_handle_Handle, ok_runs_Runs_Take_1, ok_slices_Concat_runs_Run_runs_Run, ok_slices_AppendSeq_handle_Handle_handle_Handle, ok_forest_under_1, ok_forest_Kids, ok_slices_Reverse_handle_Handle_handle_Handle, ok_slices_DeleteFunc_handle_Handle_handle_Handle, ok_forest_Kids_1, ok_slices_IndexFunc_handle_Handle_handle_Handle, ok_own_Owns_Held, ok_Pmodel_caller_dies, ok_sched_kinds_1, ok_sched_kinds_1_1, ok_sched_kinds_2, ok_slices_Contains_uint8_uint8, ok_sched_kinds_3, ok_Pmodel_caller_exit, ok_Pmodel_caller_spawn, ok_model_fine, ok_Pmodel_caller_owns, ok_Pmodel_caller_gone, ok_Pmodel_caller_drops, ok_token_Tokens_Return, ok_mail_Box_Drain, ok_own_Owns_Roots, ok_own_Owns_those, ok_own_Owns_Held_1, ok_own_bit, ok_own_Owns_Give, ok_token_Tokens_Clear, ok_forest_Fell, ok_own_Owns_say, ok_own_Owns_held, ok_own_Owns_Drop, ok_token_Tokens_Return_1, ok_token_Tokens_Return_1_1, ok_token_Tokens_without, ok_own_Owns_Roots_1, ok_token_Tokens_On, ok_table_Table_Drop, ok_math_bits_OnesCount8, ok_handle_Book_Void, ok_token_Tokens_On_1, by simp⟩

end Go.Proofs.YtohnmnbdmcoflaaGreatDoor
