/- The code of the laws in compact form is what is made of the translated code (no conditions). -/
import Derived.Test.YthbgjjdbcalhcaaGreatDoorDenC
import Derived.Test.YthbgjjdbcalhcaaGreatDoorProg
import Derived.KernelRfl
set_option linter.unusedVariables false
set_option linter.unusedSimpArgs false
set_option linter.unusedSectionVars false
set_option linter.deprecated false

/- The compact code of the functions (written by a program; checked below). -/
namespace Go.Proofs.YthbgjjdbcalhcaaGreatDoor
open Go Go.Den

def fn_law31_DiffTells : Nat := 3
def fn_law31_DiffBack : Nat := 4
def fn_law31_wakes : Nat := 5
def fn_diff_Diff : Nat := 6
def fn_ref31_Diff : Nat := 7
def fn_law31_same : Nat := 8
def fn_diff_Apart : Nat := 9
def fn_ref31_Apart : Nat := 10
def fn_diff_Effects : Nat := 11
def fn_diff_lines : Nat := 12
def fn_diff_some_string : Nat := 13
def fn_diff_Diff_1 : Nat := 14
def fn_ref31_lines : Nat := 15
def fn_ref30_Key : Nat := 16
def fn_ref31_last : Nat := 17
def fn_diff_some_diff_Change : Nat := 18
def fn_diff_Apart_1 : Nat := 19
def fn_trace_Replay : Nat := 20
def fn_model_Begin : Nat := 21
def fn_dump_State : Nat := 22
def fn_model_State_Do : Nat := 23
def fn_dump_Lines : Nat := 24
def fn_dump_Key : Nat := 25
def fn_ref30_Lines : Nat := 26
def fn_model_State_Needs : Nat := 27
def fn_Pdump_dumper_state : Nat := 28
def fn_Pstrings_Builder_String : Nat := 29
def fn_Pmodel_caller_calls : Nat := 30
def fn_strings_Split : Nat := 31
def fn_strings_TrimSuffix : Nat := 32
def fn_strings_Cut : Nat := 33
def fn_Pdump_dumper_regions : Nat := 34
def fn_Pdump_dumper_tokens : Nat := 35
def fn_Pdump_dumper_line : Nat := 36
def fn_mail_Box_Closed : Nat := 37
def fn_mail_Box_All : Nat := 38
def fn_Pmodel_caller_calls_1 : Nat := 39
def fn_model_ask : Nat := 40
def fn_strings_genSplit : Nat := 41
def fn_istringslite_TrimSuffix : Nat := 42
def fn_istringslite_Cut : Nat := 43
def fn_table_book_All : Nat := 44
def fn_table_Table_Get : Nat := 45
def fn_own_Owns_Of : Nat := 46
def fn_dump_list_runs_Run : Nat := 47
def fn_dump_list_handle_Handle : Nat := 48
def fn_table_Table_New : Nat := 49
def fn_token_Tokens_Of : Nat := 50
def fn_handle_Handle_Slot : Nat := 51
def fn_token_Tokens_Get : Nat := 52
def fn_token_Tokens_Lend : Nat := 53
def fn_Pstrings_Builder_WriteByte : Nat := 54
def fn_Pstrings_Builder_WriteString : Nat := 55
def fn_dump_word : Nat := 56
def fn_mail_Box_each : Nat := 57
def fn_slices_Clip_mail_Message_mail_Message : Nat := 58
def fn_strings_explode : Nat := 59
def fn_strings_Count : Nat := 60
def fn_strings_Index : Nat := 61
def fn_istringslite_HasSuffix : Nat := 62
def fn_istringslite_Index : Nat := 63
def fn_handle_Book_Issued : Nat := 64
def fn_handle_Book_Good : Nat := 65
def fn_table_Table_up : Nat := 66
def fn_forest_Root : Nat := 67
def fn_strings_Join : Nat := 68
def fn_table_quota : Nat := 69
def fn_handle_Book_Issue : Nat := 70
def fn_token_Tokens_those : Nat := 71
def fn_token_Tokens_Of_1 : Nat := 72
def fn_token_Tokens_may : Nat := 73
def fn_Pstrings_Builder_copyCheck : Nat := 74
def fn_strconv_Itoa : Nat := 75
def fn_strconv_FormatUint : Nat := 76
def fn_mail_Box_each_1 : Nat := 77
def fn_mail_Box_at : Nat := 78
def fn_unicode_utf8_RuneCountInString : Nat := 79
def fn_unicode_utf8_DecodeRuneInString : Nat := 80
def fn_ibytealg_CountString : Nat := 81
def fn_istringslite_IndexByte : Nat := 82
def fn_ibytealg_IndexString : Nat := 83
def fn_ibytealg_Cutover : Nat := 84
def fn_ibytealg_IndexRabinKarp_string : Nat := 85
def fn_handle_Book_At : Nat := 86
def fn_forest_above : Nat := 87
def fn_Pstrings_Builder_Grow : Nat := 88
def fn_handle_of : Nat := 89
def fn_token_Tokens_right : Nat := 90
def fn_token_Tokens_good : Nat := 91
def fn_istrconv_Itoa : Nat := 93
def fn_istrconv_FormatUint : Nat := 94
def fn_unicode_utf8_decodeRuneInStringSlow : Nat := 95
def fn_ibytealg_IndexByteString : Nat := 96
def fn_ibytealg_hashStr_string : Nat := 97
def fn_forest_above_1 : Nat := 98
def fn_Pstrings_Builder_grow : Nat := 99
def fn_token_Tokens_right_1 : Nat := 100
def fn_istrconv_FormatInt : Nat := 101
def fn_istrconv_small : Nat := 102
def fn_istrconv_numDigits : Nat := 103
def fn_istrconv_formatBase10 : Nat := 104
def fn_istrconv_formatBits : Nat := 105
def fn_istrconv_log10Pow2 : Nat := 107
def fn_math_bits_Len64 : Nat := 108
def fn_istrconv_bool2_int : Nat := 109
def fn_istrconv_isPowerOfTwo : Nat := 110
def fn_math_bits_TrailingZeros : Nat := 111
def fn_math_bits_TrailingZeros32 : Nat := 112
def fn_math_bits_TrailingZeros64 : Nat := 113
def fn_access_Who_owner : Nat := 133
def fn_Pmodel_caller_new : Nat := 142
def fn_Pmodel_caller_may : Nat := 163
def fn_forest_New : Nat := 164
def fn_model_fine : Nat := 165
def fn_Pmodel_caller_owns : Nat := 166
def fn_access_Who_May : Nat := 197
def fn_forest_Depth : Nat := 198
def fn_own_Owns_Give : Nat := 199
def fn_forest_Under : Nat := 207
def fn_own_Owns_say : Nat := 214
def fn_access_Who_lent : Nat := 225
def fn_access_Who_owner_1 : Nat := 226
def fn_token_Tokens_Reads : Nat := 227
def fn_access_Who_owner_2 : Nat := 228
def fn_token_Tokens_Writes : Nat := 229
def fn_access_Who_owner_3 : Nat := 230
def fn_slices_ContainsFunc_handle_Handle_handle_Handle : Nat := 231
def fn_access_Who_owner_3_1 : Nat := 232
def fn_token_Tokens_On : Nat := 233
def fn_slices_Collect_handle_Handle : Nat := 237
def fn_forest_under : Nat := 238
def fn_access_Who_lent_1 : Nat := 243
def fn_slices_IndexFunc_handle_Handle_handle_Handle : Nat := 244
def fn_token_Tokens_On_1 : Nat := 245
def fn_slices_AppendSeq_handle_Handle_handle_Handle : Nat := 248
def fn_forest_under_1 : Nat := 249
def fn_forest_Kids : Nat := 250
def fn_slices_Reverse_handle_Handle_handle_Handle : Nat := 251
def fn_slices_DeleteFunc_handle_Handle_handle_Handle : Nat := 252
def fn_forest_Kids_1 : Nat := 253
def ty_int : Nat := 3
def ty_bool : Nat := 4
def ty_uint8 : Nat := 5
def ty_string : Nat := 9
def ty_interface : Nat := 20
def ty_s_diff_Change : Nat := 23
def ty_diff_Change : Nat := 32
def ty_uint32 : Nat := 37
def ty_handle_Handle : Nat := 38
def ty_uint64 : Nat := 39
def ty_api_Errno : Nat := 42
def ty_runs_Run : Nat := 46
def ty_ref31_Change : Nat := 60
def ty_mail_Message : Nat := 95
def ty_strings_Builder : Nat := 114
def ty_dump_dumper : Nat := 116
def g_model_does : Nat := 0
def g_ibytealg_MaxLen : Nat := 1
def g_unicode_utf8_first : Nat := 2
def g_unicode_utf8_acceptRanges : Nat := 3
def g_istrconv_uint64pow10 : Nat := 4
def g_math_bits_deBruijn32tab : Nat := 5
def g_math_bits_deBruijn64tab : Nat := 6
def str_0331779f : List UInt8 := [115, 116, 114, 105, 110, 103, 115, 46, 66, 117, 105, 108, 100, 101, 114, 46, 71, 114, 111, 119, 58, 32, 110, 101, 103, 97, 116, 105, 118, 101, 32, 99, 111, 117, 110, 116]
def str_04d12309 : List UInt8 := [115, 116, 114, 105, 110, 103, 115, 58, 32, 74, 111, 105, 110, 32, 111, 117, 116, 112, 117, 116, 32, 108, 101, 110, 103, 116, 104, 32, 111, 118, 101, 114, 102, 108, 111, 119]
def str_11c1601c : List UInt8 := [0, 1, 2, 2, 3, 3, 3, 3, 4, 4, 4, 4, 4, 4, 4, 4, 5, 5, 5, 5, 5, 5, 5, 5, 5, 5, 5, 5, 5, 5, 5, 5, 6, 6, 6, 6, 6, 6, 6, 6, 6, 6, 6, 6, 6, 6, 6, 6, 6, 6, 6, 6, 6, 6, 6, 6, 6, 6, 6, 6, 6, 6, 6, 6, 7, 7, 7, 7, 7, 7, 7, 7, 7, 7, 7, 7, 7, 7, 7, 7, 7, 7, 7, 7, 7, 7, 7, 7, 7, 7, 7, 7, 7, 7, 7, 7, 7, 7, 7, 7, 7, 7, 7, 7, 7, 7, 7, 7, 7, 7, 7, 7, 7, 7, 7, 7, 7, 7, 7, 7, 7, 7, 7, 7, 7, 7, 7, 7, 8, 8, 8, 8, 8, 8, 8, 8, 8, 8, 8, 8, 8, 8, 8, 8, 8, 8, 8, 8, 8, 8, 8, 8, 8, 8, 8, 8, 8, 8, 8, 8, 8, 8, 8, 8, 8, 8, 8, 8, 8, 8, 8, 8, 8, 8, 8, 8, 8, 8, 8, 8, 8, 8, 8, 8, 8, 8, 8, 8, 8, 8, 8, 8, 8, 8, 8, 8, 8, 8, 8, 8, 8, 8, 8, 8, 8, 8, 8, 8, 8, 8, 8, 8, 8, 8, 8, 8, 8, 8, 8, 8, 8, 8, 8, 8, 8, 8, 8, 8, 8, 8, 8, 8, 8, 8, 8, 8, 8, 8, 8, 8, 8, 8, 8, 8, 8, 8, 8, 8, 8, 8, 8, 8, 8, 8, 8, 8]
def str_87730c3d : List UInt8 := [48, 48, 48, 49, 48, 50, 48, 51, 48, 52, 48, 53, 48, 54, 48, 55, 48, 56, 48, 57, 49, 48, 49, 49, 49, 50, 49, 51, 49, 52, 49, 53, 49, 54, 49, 55, 49, 56, 49, 57, 50, 48, 50, 49, 50, 50, 50, 51, 50, 52, 50, 53, 50, 54, 50, 55, 50, 56, 50, 57, 51, 48, 51, 49, 51, 50, 51, 51, 51, 52, 51, 53, 51, 54, 51, 55, 51, 56, 51, 57, 52, 48, 52, 49, 52, 50, 52, 51, 52, 52, 52, 53, 52, 54, 52, 55, 52, 56, 52, 57, 53, 48, 53, 49, 53, 50, 53, 51, 53, 52, 53, 53, 53, 54, 53, 55, 53, 56, 53, 57, 54, 48, 54, 49, 54, 50, 54, 51, 54, 52, 54, 53, 54, 54, 54, 55, 54, 56, 54, 57, 55, 48, 55, 49, 55, 50, 55, 51, 55, 52, 55, 53, 55, 54, 55, 55, 55, 56, 55, 57, 56, 48, 56, 49, 56, 50, 56, 51, 56, 52, 56, 53, 56, 54, 56, 55, 56, 56, 56, 57, 57, 48, 57, 49, 57, 50, 57, 51, 57, 52, 57, 53, 57, 54, 57, 55, 57, 56, 57, 57]
def str_e8a41dda : List UInt8 := [115, 116, 114, 99, 111, 110, 118, 58, 32, 105, 108, 108, 101, 103, 97, 108, 32, 65, 112, 112, 101, 110, 100, 73, 110, 116, 47, 70, 111, 114, 109, 97, 116, 73, 110, 116, 32, 98, 97, 115, 101]
def str_fdb5537d : List UInt8 := [48, 49, 50, 51, 52, 53, 54, 55, 56, 57, 97, 98, 99, 100, 101, 102, 103, 104, 105, 106, 107, 108, 109, 110, 111, 112, 113, 114, 115, 116, 117, 118, 119, 120, 121, 122]
def repL (n : Nat) (l : List AV) : List AV := (List.replicate n l).flatten
def z128_8087 : List AV := repL 32 [(.int .u32 0), (.int .u8 0), (.int .u8 0), (.int .u8 0)]
def z176_e02c : List AV := repL 32 [(.int .u32 0), (.bool false), (.bool false)] ++ repL 16 [(.int .u32 0), (.int .u8 0), (.int .u8 0), (.bool false), (.int .u32 0)]
def z24_72f9 : List AV := repL 24 [(.int .u8 0)]
def z480_3a0d : List AV := repL 32 [(.int .u32 0), (.bool false), (.bool false)] ++ repL 32 [(.int .u32 0), (.int .i64 0), .nils, (.int .i64 0), (.int .u32 0), (.int .u32 0), (.int .u32 0), (.int .u32 0), (.int .u32 0), (.int .u32 0), (.int .u32 0), (.int .u32 0)]
def z952_2fb3 : List AV := repL 32 [(.int .u32 0), (.bool false), (.bool false)] ++ repL 32 [(.int .u32 0), (.int .i64 0), .nils, (.int .i64 0), (.int .u32 0), (.int .u32 0), (.int .u32 0), (.int .u32 0), (.int .u32 0), (.int .u32 0), (.int .u32 0), (.int .u32 0)] ++ repL 32 [(.int .u32 0), (.int .u8 0), (.int .u8 0), (.int .u8 0)] ++ repL 32 [(.int .u32 0), (.bool false), (.bool false)] ++ repL 16 [(.int .u32 0), (.int .u8 0), (.int .u8 0), (.bool false), (.int .u32 0)] ++ repL 4 [(.int .u8 0), (.int .u64 0), (.int .u32 0), (.bool false)] ++ [(.int .i64 0), (.int .i64 0)] ++ repL 4 [(.bool false), (.int .u8 0), (.int .u64 0), (.int .u32 0)] ++ [(.bool false), (.int .i64 0), (.int .i64 0)] ++ repL 4 [(.bool false), (.int .u8 0), (.int .u64 0), (.int .u32 0)] ++ [(.bool false), (.int .i64 0), (.int .i64 0)] ++ repL 4 [(.bool false), (.int .u8 0), (.int .u64 0), (.int .u32 0)] ++ [(.bool false), (.int .i64 0), (.int .i64 0)] ++ repL 4 [(.bool false), (.int .u8 0), (.int .u64 0), (.int .u32 0)] ++ [(.bool false), (.int .i64 0), (.int .i64 0)] ++ repL 4 [(.bool false), (.int .u8 0), (.int .u64 0), (.int .u32 0)] ++ [(.bool false), (.int .i64 0), (.int .i64 0)] ++ repL 4 [(.bool false), (.int .u8 0), (.int .u64 0), (.int .u32 0)] ++ [(.bool false), (.int .i64 0), (.int .i64 0)] ++ repL 4 [(.bool false), (.int .u8 0), (.int .u64 0), (.int .u32 0)] ++ [(.bool false), (.int .i64 0), (.int .i64 0)] ++ repL 17 [(.bool false)]
def z964_ded6 : List AV := repL 32 [(.int .u32 0), (.bool false), (.bool false)] ++ repL 32 [(.int .u32 0), (.int .i64 0), .nils, (.int .i64 0), (.int .u32 0), (.int .u32 0), (.int .u32 0), (.int .u32 0), (.int .u32 0), (.int .u32 0), (.int .u32 0), (.int .u32 0)] ++ repL 32 [(.int .u32 0), (.int .u8 0), (.int .u8 0), (.int .u8 0)] ++ repL 32 [(.int .u32 0), (.bool false), (.bool false)] ++ repL 16 [(.int .u32 0), (.int .u8 0), (.int .u8 0), (.bool false), (.int .u32 0)] ++ repL 4 [(.int .u8 0), (.int .u64 0), (.int .u32 0), (.bool false)] ++ [(.int .i64 0), (.int .i64 0)] ++ repL 4 [(.bool false), (.int .u8 0), (.int .u64 0), (.int .u32 0)] ++ [(.bool false), (.int .i64 0), (.int .i64 0)] ++ repL 4 [(.bool false), (.int .u8 0), (.int .u64 0), (.int .u32 0)] ++ [(.bool false), (.int .i64 0), (.int .i64 0)] ++ repL 4 [(.bool false), (.int .u8 0), (.int .u64 0), (.int .u32 0)] ++ [(.bool false), (.int .i64 0), (.int .i64 0)] ++ repL 4 [(.bool false), (.int .u8 0), (.int .u64 0), (.int .u32 0)] ++ [(.bool false), (.int .i64 0), (.int .i64 0)] ++ repL 4 [(.bool false), (.int .u8 0), (.int .u64 0), (.int .u32 0)] ++ [(.bool false), (.int .i64 0), (.int .i64 0)] ++ repL 4 [(.bool false), (.int .u8 0), (.int .u64 0), (.int .u32 0)] ++ [(.bool false), (.int .i64 0), (.int .i64 0)] ++ repL 4 [(.bool false), (.int .u8 0), (.int .u64 0), (.int .u32 0)] ++ [(.bool false), (.int .i64 0), (.int .i64 0)] ++ repL 17 [(.bool false)] ++ [(.int .i64 0), (.int .u8 0)] ++ repL 4 [(.int .u32 0)] ++ [(.int .u64 0)] ++ repL 3 [(.int .i64 0)] ++ [(.bool false), .nils]
def z96_9863 : List AV := repL 32 [(.int .u32 0), (.bool false), (.bool false)]

def pf_law31_DiffTells : PF := ⟨57, [.t 6],
  (.seq (.reg [o 6 (.mov (.c (.bool false)))])
  (.seq (.seq (.reg [o 11 (.mov (.t 0)), o 12 (.len .str (.t 11)), o 13 (.bin .gtr (.t 12) (ci 1500)), o 14 (.mov (.t 13)), gf 14 (some 15) (.mov (.t 1)), gf 14 (some 16) (.len .str (.t 15)), gf 14 (some 17) (.bin .gtr (.t 16) (ci 1500)), o 18 (.pick (.t 14) (.c (.bool true)) (.t 17)), o 19 (.mov (.t 18)), gf 19 (some 20) (.mov (.t 2)), gf 19 (some 21) (.len .str (.t 20)), gf 19 (some 22) (.bin .gtr (.t 21) (ci 1500)), o 23 (.pick (.t 19) (.c (.bool true)) (.t 22))])
  (.cond (.t 23) (.seq (.reg [o 24 (.call (cf fn_law31_wakes) []), o 6 (.mov (.t 24))])
    .ret) .skip))
  (.seq (.reg [o 25 (.mov (.t 0)), o 26 (.mov (.t 1)), o 27 (.call (cf fn_diff_Diff) [(.t 25), (.t 26)]), o 28 (.mov (.t 1)), o 29 (.mov (.t 2)), o 30 (.call (cf fn_diff_Diff) [(.t 28), (.t 29)]), o 7 (.mov (.t 27)), o 8 (.mov (.t 30))])
  (.seq (.reg [o 31 (.mov (.t 0)), o 32 (.mov (.t 1)), o 33 (.call (cf fn_ref31_Diff) [(.t 31), (.t 32)]), o 34 (.mov (.t 1)), o 35 (.mov (.t 2)), o 36 (.call (cf fn_ref31_Diff) [(.t 34), (.t 35)]), o 9 (.mov (.t 33)), o 10 (.mov (.t 36))])
  (.seq (.reg [o 37 (.mov (.t 7)), o 38 (.mov (.t 9)), o 39 (.call (cf fn_law31_same) [(.t 37), (.t 38)]), o 40 (.mov (.t 39)), gt 40 (some 41) (.mov (.t 8)), gt 40 (some 42) (.mov (.t 10)), gt 40 (some 43) (.call (cf fn_law31_same) [(.t 41), (.t 42)]), o 44 (.pick (.t 40) (.t 43) (.c (.bool false))), o 45 (.mov (.t 44)), gt 45 (some 46) (.mov (.t 7)), gt 45 (some 47) (.mov (.t 8)), gt 45 (some 48) (.call (cf fn_diff_Apart) [(.t 46), (.t 47)]), gt 45 (some 49) (.mov (.t 9)), gt 45 (some 50) (.mov (.t 10)), gt 45 (some 51) (.call (cf fn_ref31_Apart) [(.t 49), (.t 50)]), gt 45 (some 52) (.eq .bool (.t 48) (.t 51)), o 53 (.pick (.t 45) (.t 52) (.c (.bool false))), o 54 (.mov (.t 53)), gt 54 (some 55) (.call (cf fn_law31_wakes) []), o 56 (.pick (.t 54) (.t 55) (.c (.bool false))), o 6 (.mov (.t 56))])
  .ret)))))⟩

def l2_law31_DiffBack : PC :=
  (.seq (.seq (.reg [o 43 (.mov (.t 9)), o 44 (.mov (.t 6)), o 45 (.len .sl (.t 44)), o 46 (.bin .lss (.t 43) (.t 45))])
  (.cond (.t 46) .skip (.exit 2)))
  (.seq (.block 3 (.dreg [(o 49 (.mov (.t 8)), []), (o 50 (.mov (.t 49)), []), (gf 50 (some 51) (.mov (.t 6)), []), (gf 50 (some 52) (.mov (.t 9)), []), (gf 50 (some 53) (.iaddrs 3 (.t 51) (.t 52)), []), (gf 50 (some 54) (.load true 3 (.t 53)), []), (gf 50 (some 55) (.mov (.t 5)), []), (gf 50 (some 56) (.mov (.t 7)), []), (gf 50 (some 57) (.iaddrs 3 (.t 55) (.t 56)), []), (gf 50 (some 58) (.faddr 0 (.t 57)), []), (gf 50 (some 59) (.load false 1 (.t 58)), [5]), (gf 50 (some 60) (.mov (.t 5)), []), (gf 50 (some 61) (.mov (.t 7)), []), (gf 50 (some 62) (.iaddrs 3 (.t 60) (.t 61)), []), (gf 50 (some 63) (.faddr 2 (.t 62)), []), (gf 50 (some 64) (.load false 1 (.t 63)), [5, 10]), (gf 50 (some 65) (.mov (.t 5)), []), (gf 50 (some 66) (.mov (.t 7)), []), (gf 50 (some 67) (.iaddrs 3 (.t 65) (.t 66)), []), (gf 50 (some 68) (.faddr 1 (.t 67)), []), (gf 50 (some 69) (.load false 1 (.t 68)), [5, 10, 15]), (gf 50 (some 70) (.build [(S []), (S []), (S [])] [(0, 1, (.t 59)), (1, 1, (.t 64)), (2, 1, (.t 69))]), []), (gf 50 (some 71) (.eq (.agg [.str, .str, .str]) (.t 54) (.t 70)), []), (o 72 (.pick (.t 50) (.c (.bool true)) (.t 71)), []), (o 8 (.mov (.t 72)), [])]))
  (.reg [o 47 (.mov (.t 9)), o 48 (.bin .add (.t 47) (ci 1)), o 9 (.mov (.t 48))])))
def l1_law31_DiffBack : PC :=
  (.seq (.seq (.reg [o 37 (.mov (.t 7)), o 38 (.mov (.t 5)), o 39 (.len .sl (.t 38)), o 40 (.bin .lss (.t 37) (.t 39))])
  (.cond (.t 40) .skip (.exit 0)))
  (.seq (.block 1 (.seq (.reg [o 8 (.mov (.c (.bool false)))])
    (.seq (.seq (.reg [o 9 (.mov (ci 0))])
    (.block 2 (.loop l2_law31_DiffBack)))
    (.seq (.dreg [(o 73 (.mov (.t 8)), []), (o 74 (.un .not (.t 73)), []), (o 75 (.mov (.t 74)), []), (gf 75 (some 76) (.mov (.t 5)), []), (gf 75 (some 77) (.mov (.t 7)), []), (gf 75 (some 78) (.iaddrs 3 (.t 76) (.t 77)), []), (gf 75 (some 79) (.faddr 1 (.t 78)), []), (gf 75 (some 80) (.load false 1 (.t 79)), []), (gf 75 (some 81) (.mov (.t 5)), []), (gf 75 (some 82) (.mov (.t 7)), []), (gf 75 (some 83) (.iaddrs 3 (.t 81) (.t 82)), []), (gf 75 (some 84) (.faddr 2 (.t 83)), []), (gf 75 (some 85) (.load false 1 (.t 84)), [7]), (gf 75 (some 86) (.eq .str (.t 80) (.t 85)), []), (o 87 (.pick (.t 75) (.c (.bool true)) (.t 86)), [])])
    (.cond (.t 87) (.seq (.reg [o 4 (.mov (.c (.bool false)))])
      .ret) .skip)))))
  (.reg [o 41 (.mov (.t 7)), o 42 (.bin .add (.t 41) (ci 1)), o 7 (.mov (.t 42))])))
def pf_law31_DiffBack : PF := ⟨89, [.t 4],
  (.seq (.reg [o 4 (.mov (.c (.bool false)))])
  (.seq (.seq (.reg [o 10 (.mov (.t 0)), o 11 (.len .str (.t 10)), o 12 (.bin .gtr (.t 11) (ci 1500)), o 13 (.mov (.t 12)), gf 13 (some 14) (.mov (.t 1)), gf 13 (some 15) (.len .str (.t 14)), gf 13 (some 16) (.bin .gtr (.t 15) (ci 1500)), o 17 (.pick (.t 13) (.c (.bool true)) (.t 16))])
  (.cond (.t 17) (.seq (.reg [o 18 (.call (cf fn_law31_wakes) []), o 4 (.mov (.t 18))])
    .ret) .skip))
  (.seq (.reg [o 19 (.mov (.t 0)), o 20 (.mov (.t 1)), o 21 (.call (cf fn_diff_Diff) [(.t 19), (.t 20)]), o 22 (.mov (.t 1)), o 23 (.mov (.t 0)), o 24 (.call (cf fn_diff_Diff) [(.t 22), (.t 23)]), o 5 (.mov (.t 21)), o 6 (.mov (.t 24))])
  (.seq (.seq (.reg [o 25 (.mov (.t 0)), o 26 (.mov (.t 0)), o 27 (.call (cf fn_diff_Diff) [(.t 25), (.t 26)]), o 28 (.len .sl (.t 27)), o 29 (.ne .int (.t 28) (ci 0)), o 30 (.mov (.t 29)), gf 30 (some 31) (.mov (.t 5)), gf 30 (some 32) (.len .sl (.t 31)), gf 30 (some 33) (.mov (.t 6)), gf 30 (some 34) (.len .sl (.t 33)), gf 30 (some 35) (.ne .int (.t 32) (.t 34)), o 36 (.pick (.t 30) (.c (.bool true)) (.t 35))])
  (.cond (.t 36) (.seq (.reg [o 4 (.mov (.c (.bool false)))])
    .ret) .skip))
  (.seq (.seq (.reg [o 7 (.mov (ci 0))])
  (.block 0 (.loop l1_law31_DiffBack)))
  (.seq (.reg [o 88 (.call (cf fn_law31_wakes) []), o 4 (.mov (.t 88))])
  .ret))))))⟩

def pf_law31_wakes : PF := ⟨66, [.t 0],
  (.seq (.reg [o 0 (.mov (.c (.bool false)))])
  (.seq (.reg [o 4 (.call (cf fn_diff_Diff) [(.c (S [97, 32, 49, 32, 120, 10, 98, 32, 49, 32, 121, 10, 99, 32, 49, 10])), (.c (S [100, 32, 49, 10, 98, 32, 49, 32, 122, 10, 97, 32, 49, 32, 120, 10]))]), o 1 (.mov (.t 4))])
  (.seq (.reg [o 6 (.build [(.int .u8 0), (.int .u32 0), (.int .u32 0), (.int .u32 0), (.int .u32 0), (.int .u64 0)] [(0, 1, (.c (.int .u8 1))), (3, 1, (.c (.int .u32 2)))]), o 7 (.build [(.int .i64 0), (.int .u64 0), (.int .u32 0)] [(2, 1, (.c (.int .u32 1)))]), o 8 (.build [(.int .i64 0), (.int .u8 0), (.int .u32 0), (.int .u32 0), (.int .u32 0), (.int .u32 0), (.int .u64 0), (.int .i64 0), (.int .i64 0), (.int .i64 0), (.int .u64 0), (.int .u32 0), (.int .i64 0), (.int .i64 0)] [(1, 6, (.t 6)), (9, 3, (.t 7))]), o 9 (.bslice [(.int .i64 0), (.int .u8 0), (.int .u32 0), (.int .u32 0), (.int .u32 0), (.int .u32 0), (.int .u64 0), (.int .i64 0), (.int .i64 0), (.int .i64 0), (.int .u64 0), (.int .u32 0), (.int .i64 0), (.int .i64 0)] 1 [(0, 14, (.t 8))]), o 10 (.call (cf fn_diff_Effects) [(.t 9)]), o 5 (.mov (.t 10)), o 11 (.ext (.t 5) 0), o 12 (.ext (.t 5) 1), o 2 (.mov (.t 11)), o 3 (.mov (.t 12))])
  (.seq (.dreg [(o 13 (.mov (.t 1)), []), (o 14 (.len .sl (.t 13)), []), (o 15 (.eq .int (.t 14) (ci 3)), []), (o 16 (.mov (.t 15)), []), (gt 16 (some 17) (.mov (.t 1)), []), (gt 16 (some 18) (.iaddrs 3 (.t 17) (ci 0)), []), (gt 16 (some 19) (.load true 3 (.t 18)), []), (gt 16 (some 20) (.build [(S []), (S []), (S [])] [(0, 1, (.c (S [98, 32, 49]))), (1, 1, (.c (S [98, 32, 49, 32, 121]))), (2, 1, (.c (S [98, 32, 49, 32, 122])))]), []), (gt 16 (some 21) (.eq (.agg [.str, .str, .str]) (.t 19) (.t 20)), []), (o 22 (.pick (.t 16) (.t 21) (.c (.bool false))), []), (o 23 (.mov (.t 22)), []), (gt 23 (some 24) (.mov (.t 1)), []), (gt 23 (some 25) (.iaddrs 3 (.t 24) (ci 1)), []), (gt 23 (some 26) (.load true 3 (.t 25)), []), (gt 23 (some 27) (.build [(S []), (S []), (S [])] [(0, 1, (.c (S [99, 32, 49]))), (1, 1, (.c (S [99, 32, 49])))]), []), (gt 23 (some 28) (.eq (.agg [.str, .str, .str]) (.t 26) (.t 27)), []), (o 29 (.pick (.t 23) (.t 28) (.c (.bool false))), []), (o 30 (.mov (.t 29)), []), (gt 30 (some 31) (.mov (.t 1)), []), (gt 30 (some 32) (.iaddrs 3 (.t 31) (ci 2)), []), (gt 30 (some 33) (.load true 3 (.t 32)), []), (gt 30 (some 34) (.build [(S []), (S []), (S [])] [(0, 1, (.c (S [100, 32, 49]))), (2, 1, (.c (S [100, 32, 49])))]), []), (gt 30 (some 35) (.eq (.agg [.str, .str, .str]) (.t 33) (.t 34)), []), (o 36 (.pick (.t 30) (.t 35) (.c (.bool false))), []), (o 37 (.mov (.t 36)), []), (gt 37 (some 38) (.mov (.t 3)), []), (o 39 (.pick (.t 37) (.t 38) (.c (.bool false))), []), (o 40 (.mov (.t 39)), []), (gt 40 (some 41) (.mov (.t 2)), []), (gt 40 (some 42) (.len .sl (.t 41)), []), (gt 40 (some 43) (.eq .int (.t 42) (ci 1)), []), (o 44 (.pick (.t 40) (.t 43) (.c (.bool false))), []), (o 45 (.mov (.t 44)), []), (gt 45 (some 46) (.mov (.t 2)), []), (gt 45 (some 47) (.iaddrs 1 (.t 46) (ci 0)), []), (gt 45 (some 48) (.load false 1 (.t 47)), []), (gt 45 (some 49) (.len .sl (.t 48)), []), (gt 45 (some 50) (.eq .int (.t 49) (ci 2)), []), (o 51 (.pick (.t 45) (.t 50) (.c (.bool false))), []), (o 52 (.mov (.t 51)), []), (gt 52 (some 53) (.mov (.t 1)), []), (gt 52 (some 54) (.slsl 3 (.t 53) none (some (ci 1)) none), []), (gt 52 (some 55) (.mov (.t 1)), []), (gt 52 (some 56) (.slsl 3 (.t 55) (some (ci 1)) none none), []), (gt 52 (some 57) (.call (cf fn_diff_Apart) [(.t 54), (.t 56)]), []), (o 58 (.pick (.t 52) (.t 57) (.c (.bool false))), []), (o 59 (.mov (.t 58)), []), (gt 59 (some 60) (.mov (.t 1)), []), (gt 59 (some 61) (.mov (.t 1)), []), (gt 59 (some 62) (.slsl 3 (.t 61) none (some (ci 1)) none), []), (gt 59 (some 63) (.call (cf fn_diff_Apart) [(.t 60), (.t 62)]), []), (gt 59 (some 64) (.un .not (.t 63)), []), (o 65 (.pick (.t 59) (.t 64) (.c (.bool false))), []), (o 0 (.mov (.t 65)), [])])
  .ret))))⟩

def l1_diff_Diff : PC :=
  (.seq (.reg [o 35 (.bin .lss (.t 34) (.t 33))])
  (.seq (.cond (.t 35) .skip (.exit 0))
  (.seq (.block 1 (.seq (.reg [o 36 (.iaddrs 1 (.t 32) (.t 34)), o 37 (.load false 1 (.t 36)), o 12 (.mov (.t 37))])
    (.seq (.reg [o 39 (.load false 1 (.t 5)), o 40 (.mov (.t 12)), o 41 (.lookup .str (S []) (.t 39) (.t 40) true), o 38 (.mov (.t 41)), o 42 (.ext (.t 38) 0), o 43 (.ext (.t 38) 1), o 13 (.mov (.t 42)), o 14 (.mov (.t 43))])
    (.seq (.reg [o 45 (.mov (.t 7)), o 46 (.mov (.t 12)), o 47 (.lookup .str (S []) (.t 45) (.t 46) true), o 44 (.mov (.t 47)), o 48 (.ext (.t 44) 0), o 49 (.ext (.t 44) 1), o 15 (.mov (.t 48)), o 16 (.mov (.t 49))])
    (.seq (.reg [o 50 (.mov (.t 14)), o 51 (.mov (.t 16)), o 52 (.ne .bool (.t 50) (.t 51)), o 53 (.mov (.t 52)), gf 53 (some 54) (.load false 1 (.t 5)), gf 53 (some 55) (.mov (.t 12)), gf 53 (some 56) (.lookup .str (S []) (.t 54) (.t 55) false), gf 53 (some 57) (.mov (.t 7)), gf 53 (some 58) (.mov (.t 12)), gf 53 (some 59) (.lookup .str (S []) (.t 57) (.t 58) false), gf 53 (some 60) (.ne .str (.t 56) (.t 59)), o 61 (.pick (.t 53) (.c (.bool true)) (.t 60))])
    (.cond (.t 61) (.reg [o 62 (.mov (.t 10)), o 63 (.mov (.t 12)), o 64 (.load false 1 (.t 5)), o 65 (.mov (.t 12)), o 66 (.lookup .str (S []) (.t 64) (.t 65) false), o 67 (.mov (.t 7)), o 68 (.mov (.t 12)), o 69 (.lookup .str (S []) (.t 67) (.t 68) false), o 70 (.build [(S []), (S []), (S [])] [(0, 1, (.t 63)), (1, 1, (.t 66)), (2, 1, (.t 69))]), o 71 (.bslice [(S []), (S []), (S [])] 1 [(0, 3, (.t 70))]), o 72 (.append ty_diff_Change 3 48 (.t 62) (.t 71)), o 10 (.mov (.t 72))]) .skip))))))
  (.reg [o 73 (.bin .add (.t 34) (ci 1)), o 34 (.mov (.t 73))]))))
def pf_diff_Diff : PF := ⟨75, [.t 4],
  (.seq (.reg [o 4 (.mov (.c .nils))])
  (.seq (.reg [o 18 (.mov (.t 0)), o 19 (.call (cf fn_diff_lines) [(.t 18)]), o 17 (.mov (.t 19)), o 20 (.ext (.t 17) 0), o 21 (.ext (.t 17) 1), o 5 (.alloc [.nilm] none), u (.store 1 (.t 5) (.t 20)), o 6 (.mov (.t 21))])
  (.seq (.reg [o 23 (.mov (.t 1)), o 24 (.call (cf fn_diff_lines) [(.t 23)]), o 22 (.mov (.t 24)), o 25 (.ext (.t 22) 0), o 26 (.ext (.t 22) 1), o 7 (.mov (.t 25)), o 8 (.mov (.t 26))])
  (.seq (.reg [o 27 (.mov (.t 8)), o 28 (.mkf (.func fn_diff_Diff_1) [] [(.t 5)]), o 29 (.call (cf fn_diff_some_string) [(.t 27), (.t 28)]), o 9 (.mov (.t 29))])
  (.seq (.reg [o 10 (.mov (.c .nils))])
  (.seq (.seq (.reg [o 30 (.mov (.t 6)), o 31 (.mov (.t 9)), o 32 (.append ty_string 1 16 (.t 30) (.t 31)), o 33 (.len .sl (.t 32)), o 34 (.mov (ci 0))])
  (.block 0 (.loop l1_diff_Diff)))
  (.seq (.reg [o 74 (.mov (.t 10)), o 4 (.mov (.t 74))])
  .ret)))))))⟩

def l2_ref31_Diff : PC :=
  (.seq (.seq (.reg [o 36 (.mov (.t 12)), o 37 (.mov (.t 9)), o 38 (.bin .lss (.t 36) (.t 37))])
  (.cond (.t 38) .skip (.exit 2)))
  (.seq (.block 3 (.reg [o 41 (.mov (.t 11)), o 42 (.mov (.t 41)), gt 42 (some 43) (.mov (.t 7)), gt 42 (some 44) (.mov (.t 12)), gt 42 (some 45) (.iaddrs 1 (.t 43) (.t 44)), gt 42 (some 46) (.load false 1 (.t 45)), gt 42 (some 47) (.call (cf fn_ref30_Key) [(.t 46)]), gt 42 (some 48) (.mov (.t 10)), gt 42 (some 49) (.ne .str (.t 47) (.t 48)), o 50 (.pick (.t 42) (.t 49) (.c (.bool false))), o 11 (.mov (.t 50))]))
  (.reg [o 39 (.mov (.t 12)), o 40 (.bin .add (.t 39) (ci 1)), o 12 (.mov (.t 40))])))
def l1_ref31_Diff : PC :=
  (.seq (.seq (.reg [o 25 (.mov (.t 9)), o 26 (.mov (.t 7)), o 27 (.len .sl (.t 26)), o 28 (.bin .lss (.t 25) (.t 27))])
  (.cond (.t 28) .skip (.exit 0)))
  (.seq (.block 1 (.seq (.reg [o 31 (.mov (.t 7)), o 32 (.mov (.t 9)), o 33 (.iaddrs 1 (.t 31) (.t 32)), o 34 (.load false 1 (.t 33)), o 35 (.call (cf fn_ref30_Key) [(.t 34)]), o 10 (.mov (.t 35))])
    (.seq (.reg [o 11 (.mov (.c (.bool true)))])
    (.seq (.seq (.reg [o 12 (.mov (ci 0))])
    (.block 2 (.loop l2_ref31_Diff)))
    (.seq (.reg [o 52 (.mov (.t 5)), o 53 (.mov (.t 10)), o 54 (.call (cf fn_ref31_last) [(.t 52), (.t 53)]), o 51 (.mov (.t 54)), o 55 (.ext (.t 51) 0), o 56 (.ext (.t 51) 1), o 13 (.mov (.t 55)), o 14 (.mov (.t 56))])
    (.seq (.reg [o 58 (.mov (.t 6)), o 59 (.mov (.t 10)), o 60 (.call (cf fn_ref31_last) [(.t 58), (.t 59)]), o 57 (.mov (.t 60)), o 61 (.ext (.t 57) 0), o 62 (.ext (.t 57) 1), o 15 (.mov (.t 61)), o 16 (.mov (.t 62))])
    (.seq (.reg [o 63 (.mov (.t 11)), o 64 (.mov (.t 63)), gt 64 (some 65) (.mov (.t 14)), gt 64 (some 66) (.mov (.t 16)), gt 64 (some 67) (.ne .bool (.t 65) (.t 66)), gt 64 (some 68) (.mov (.t 67)), gf 68 (some 69) (.mov (.t 13)), gf 68 (some 70) (.mov (.t 15)), gf 68 (some 71) (.ne .str (.t 69) (.t 70)), gt 64 (some 72) (.pick (.t 68) (.c (.bool true)) (.t 71)), o 73 (.pick (.t 64) (.t 72) (.c (.bool false)))])
    (.cond (.t 73) (.reg [o 74 (.mov (.t 8)), o 75 (.mov (.t 10)), o 76 (.mov (.t 13)), o 77 (.mov (.t 15)), o 78 (.build [(S []), (S []), (S [])] [(0, 1, (.t 75)), (1, 1, (.t 76)), (2, 1, (.t 77))]), o 79 (.bslice [(S []), (S []), (S [])] 1 [(0, 3, (.t 78))]), o 80 (.append ty_ref31_Change 3 48 (.t 74) (.t 79)), o 8 (.mov (.t 80))]) .skip))))))))
  (.reg [o 29 (.mov (.t 9)), o 30 (.bin .add (.t 29) (ci 1)), o 9 (.mov (.t 30))])))
def pf_ref31_Diff : PF := ⟨82, [.t 4],
  (.seq (.reg [o 4 (.mov (.c .nils))])
  (.seq (.reg [o 17 (.mov (.t 0)), o 18 (.call (cf fn_ref31_lines) [(.t 17)]), o 19 (.mov (.t 1)), o 20 (.call (cf fn_ref31_lines) [(.t 19)]), o 5 (.mov (.t 18)), o 6 (.mov (.t 20))])
  (.seq (.reg [o 21 (.mov (.t 5)), o 22 (.append ty_string 1 16 (.c .nils) (.t 21)), o 23 (.mov (.t 6)), o 24 (.append ty_string 1 16 (.t 22) (.t 23)), o 7 (.mov (.t 24))])
  (.seq (.reg [o 8 (.mov (.c .nils))])
  (.seq (.seq (.reg [o 9 (.mov (ci 0))])
  (.block 0 (.loop l1_ref31_Diff)))
  (.seq (.reg [o 81 (.mov (.t 8)), o 4 (.mov (.t 81))])
  .ret))))))⟩

def l1_law31_same : PC :=
  (.seq (.seq (.reg [o 11 (.mov (.t 5)), o 12 (.mov (.t 0)), o 13 (.len .sl (.t 12)), o 14 (.bin .lss (.t 11) (.t 13))])
  (.cond (.t 14) .skip (.exit 0)))
  (.seq (.block 1 (.seq (.dreg [(o 17 (.mov (.t 0)), []), (o 18 (.mov (.t 5)), []), (o 19 (.iaddrs 3 (.t 17) (.t 18)), []), (o 20 (.load true 3 (.t 19)), []), (o 21 (.mov (.t 1)), []), (o 22 (.mov (.t 5)), []), (o 23 (.iaddrs 3 (.t 21) (.t 22)), []), (o 24 (.faddr 0 (.t 23)), []), (o 25 (.load false 1 (.t 24)), [3]), (o 26 (.mov (.t 1)), []), (o 27 (.mov (.t 5)), []), (o 28 (.iaddrs 3 (.t 26) (.t 27)), []), (o 29 (.faddr 1 (.t 28)), []), (o 30 (.load false 1 (.t 29)), [3, 8]), (o 31 (.mov (.t 1)), []), (o 32 (.mov (.t 5)), []), (o 33 (.iaddrs 3 (.t 31) (.t 32)), []), (o 34 (.faddr 2 (.t 33)), []), (o 35 (.load false 1 (.t 34)), [3, 8, 13]), (o 36 (.build [(S []), (S []), (S [])] [(0, 1, (.t 25)), (1, 1, (.t 30)), (2, 1, (.t 35))]), []), (o 37 (.ne (.agg [.str, .str, .str]) (.t 20) (.t 36)), [])])
    (.cond (.t 37) (.seq (.reg [o 4 (.mov (.c (.bool false)))])
      .ret) .skip)))
  (.reg [o 15 (.mov (.t 5)), o 16 (.bin .add (.t 15) (ci 1)), o 5 (.mov (.t 16))])))
def pf_law31_same : PF := ⟨38, [.t 4],
  (.seq (.reg [o 4 (.mov (.c (.bool false)))])
  (.seq (.seq (.reg [o 6 (.mov (.t 0)), o 7 (.len .sl (.t 6)), o 8 (.mov (.t 1)), o 9 (.len .sl (.t 8)), o 10 (.ne .int (.t 7) (.t 9))])
  (.cond (.t 10) (.seq (.reg [o 4 (.mov (.c (.bool false)))])
    .ret) .skip))
  (.seq (.seq (.reg [o 5 (.mov (ci 0))])
  (.block 0 (.loop l1_law31_same)))
  (.seq (.reg [o 4 (.mov (.c (.bool true)))])
  .ret))))⟩

def l1_diff_Apart : PC :=
  (.seq (.reg [o 12 (.bin .lss (.t 11) (.t 10))])
  (.seq (.cond (.t 12) .skip (.exit 0))
  (.seq (.block 1 (.seq (.reg [o 13 (.iaddrs 3 (.t 9) (.t 11)), o 14 (.load true 3 (.t 13)), o 7 (.alloc [(S []), (S []), (S [])] none), u (.store 3 (.t 7) (.t 14))])
    (.reg [o 15 (.load false 1 (.t 5)), o 16 (.faddr 0 (.t 7)), o 17 (.load false 1 (.t 16)), u (.mput .str (.t 15) (.t 17) (.c (.bool true)))])))
  (.reg [o 18 (.bin .add (.t 11) (ci 1)), o 11 (.mov (.t 18))]))))
def pf_diff_Apart : PF := ⟨24, [.t 4],
  (.seq (.reg [o 4 (.mov (.c (.bool false)))])
  (.seq (.reg [o 8 .mkmap, o 5 (.alloc [.nilm] none), u (.store 1 (.t 5) (.t 8))])
  (.seq (.seq (.reg [o 9 (.mov (.t 0)), o 10 (.len .sl (.t 9)), o 11 (.mov (ci 0))])
  (.block 0 (.loop l1_diff_Apart)))
  (.seq (.reg [o 19 (.mov (.t 1)), o 20 (.mkf (.func fn_diff_Apart_1) [] [(.t 5)]), o 21 (.call (cf fn_diff_some_diff_Change) [(.t 19), (.t 20)]), o 22 (.len .sl (.t 21)), o 23 (.eq .int (.t 22) (ci 0)), o 4 (.mov (.t 23))])
  .ret))))⟩

def l2_ref31_Apart : PC :=
  (.seq (.seq (.reg [o 13 (.mov (.t 6)), o 14 (.mov (.t 1)), o 15 (.len .sl (.t 14)), o 16 (.bin .lss (.t 13) (.t 15))])
  (.cond (.t 16) .skip (.exit 2)))
  (.seq (.block 3 (.seq (.dreg [(o 19 (.mov (.t 0)), []), (o 20 (.mov (.t 5)), []), (o 21 (.iaddrs 3 (.t 19) (.t 20)), []), (o 22 (.faddr 0 (.t 21)), []), (o 23 (.load false 1 (.t 22)), []), (o 24 (.mov (.t 1)), []), (o 25 (.mov (.t 6)), []), (o 26 (.iaddrs 3 (.t 24) (.t 25)), []), (o 27 (.faddr 0 (.t 26)), []), (o 28 (.load false 1 (.t 27)), [4]), (o 29 (.eq .str (.t 23) (.t 28)), [])])
    (.cond (.t 29) (.seq (.reg [o 4 (.mov (.c (.bool false)))])
      .ret) .skip)))
  (.reg [o 17 (.mov (.t 6)), o 18 (.bin .add (.t 17) (ci 1)), o 6 (.mov (.t 18))])))
def l1_ref31_Apart : PC :=
  (.seq (.seq (.reg [o 7 (.mov (.t 5)), o 8 (.mov (.t 0)), o 9 (.len .sl (.t 8)), o 10 (.bin .lss (.t 7) (.t 9))])
  (.cond (.t 10) .skip (.exit 0)))
  (.seq (.block 1 (.seq (.reg [o 6 (.mov (ci 0))])
    (.block 2 (.loop l2_ref31_Apart))))
  (.reg [o 11 (.mov (.t 5)), o 12 (.bin .add (.t 11) (ci 1)), o 5 (.mov (.t 12))])))
def pf_ref31_Apart : PF := ⟨30, [.t 4],
  (.seq (.reg [o 4 (.mov (.c (.bool false)))])
  (.seq (.seq (.reg [o 5 (.mov (ci 0))])
  (.block 0 (.loop l1_ref31_Apart)))
  (.seq (.reg [o 4 (.mov (.c (.bool true)))])
  .ret)))⟩

def l1_diff_Effects : PC :=
  (.seq (.reg [o 25 (.bin .lss (.t 24) (.t 23))])
  (.seq (.cond (.t 25) .skip (.exit 0))
  (.seq (.block 1 (.seq (.reg [o 26 (.iaddrs 14 (.t 22) (.t 24)), o 27 (.load true 14 (.t 26)), o 10 (.alloc [(.int .i64 0), (.int .u8 0), (.int .u32 0), (.int .u32 0), (.int .u32 0), (.int .u32 0), (.int .u64 0), (.int .i64 0), (.int .i64 0), (.int .i64 0), (.int .u64 0), (.int .u32 0), (.int .i64 0), (.int .i64 0)] none), u (.store 14 (.t 10) (.t 27))])
    (.seq (.reg [o 28 (.mov (.t 8)), o 11 (.mov (.t 28))])
    (.seq (.seq (.reg [o 29 (.faddr 9 (.t 10)), o 30 (.faddr 0 (.t 29)), o 31 (.load false 1 (.t 30)), o 32 (.eq .int (.t 31) (ci 0))])
    (.cond (.t 32) (.seq (.reg [o 34 (.load true 952 (.t 7)), o 35 (.faddr 0 (.t 10)), o 36 (.load false 1 (.t 35)), o 37 (.faddr 1 (.t 10)), o 38 (.load true 6 (.t 37)), o 39 (.faddr 7 (.t 10)), o 40 (.load true 2 (.t 39)), o 41 (.call (cf fn_model_State_Do) [(.t 34), (.t 36), (.t 38), (.t 40)]), o 33 (.mov (.t 41)), o 42 (.ext (.t 33) 0), o 43 (.ext (.t 33) 1), o 44 (.ext (.t 33) 2), u (.store 952 (.t 7) (.t 42))])
      (.reg [o 45 (.load true 952 (.t 7)), o 46 (.call (cf fn_dump_State) [(.t 45)]), o 11 (.mov (.t 46))])) .skip))
    (.seq (.reg [o 47 (.mov (.t 6)), o 48 (.mov (.t 8)), o 49 (.mov (.t 11)), o 50 (.call (cf fn_diff_Diff) [(.t 48), (.t 49)]), o 51 (.bslice [.nils] 1 [(0, 1, (.t 50))]), o 52 (.append ty_s_diff_Change 1 24 (.t 47) (.t 51)), o 6 (.mov (.t 52))])
    (.reg [o 53 (.mov (.t 11)), o 8 (.mov (.t 53))]))))))
  (.reg [o 54 (.bin .add (.t 24) (ci 1)), o 24 (.mov (.t 54))]))))
def pf_diff_Effects : PF := ⟨56, [.t 2, .t 3],
  (.seq (.reg [o 2 (.mov (.c .nils)), o 3 (.mov (.c (.bool false)))])
  (.seq (.seq (.reg [o 13 (.mov (.t 0)), o 14 (.call (cf fn_trace_Replay) [(.t 13)]), o 12 (.mov (.t 14)), o 15 (.ext (.t 12) 0), o 16 (.ext (.t 12) 1), o 4 (.alloc z952_2fb3 none), u (.store 952 (.t 4) (.t 15)), o 5 (.mov (.t 16))])
  (.seq (.reg [o 17 (.mov (.t 5)), o 18 (.un .not (.t 17))])
  (.cond (.t 18) (.seq (.reg [o 2 (.mov (.c .nils)), o 3 (.mov (.c (.bool false)))])
    .ret) .skip)))
  (.seq (.reg [o 6 (.mov (.c .nils))])
  (.seq (.reg [o 19 (.call (cf fn_model_Begin) []), o 7 (.alloc z952_2fb3 none), u (.store 952 (.t 7) (.t 19))])
  (.seq (.reg [o 20 (.load true 952 (.t 7)), o 21 (.call (cf fn_dump_State) [(.t 20)]), o 8 (.mov (.t 21))])
  (.seq (.seq (.reg [o 22 (.mov (.t 0)), o 23 (.len .sl (.t 22)), o 24 (.mov (ci 0))])
  (.block 0 (.loop l1_diff_Effects)))
  (.seq (.reg [o 55 (.mov (.t 6)), o 2 (.mov (.t 55)), o 3 (.mov (.c (.bool true)))])
  .ret)))))))⟩

def l1_diff_lines : PC :=
  (.seq (.reg [o 16 (.bin .lss (.t 15) (.t 14))])
  (.seq (.cond (.t 16) .skip (.exit 0))
  (.seq (.block 1 (.seq (.reg [o 17 (.iaddrs 1 (.t 13) (.t 15)), o 18 (.load false 1 (.t 17)), o 7 (.mov (.t 18))])
    (.seq (.seq (.reg [o 19 (.mov (.t 7)), o 20 (.eq .str (.t 19) (.c (S [])))])
    (.cond (.t 20) (.exit 1) .skip))
    (.seq (.reg [o 21 (.mov (.t 7)), o 22 (.call (cf fn_dump_Key) [(.t 21)]), o 8 (.mov (.t 22))])
    (.seq (.seq (.reg [o 24 (.mov (.t 4)), o 25 (.mov (.t 8)), o 26 (.lookup .str (S []) (.t 24) (.t 25) true), o 23 (.mov (.t 26)), o 27 (.ext (.t 23) 0), o 28 (.ext (.t 23) 1), o 9 (.mov (.t 27)), o 10 (.mov (.t 28))])
    (.seq (.reg [o 29 (.mov (.t 10)), o 30 (.un .not (.t 29))])
    (.cond (.t 30) (.reg [o 31 (.mov (.t 5)), o 32 (.mov (.t 8)), o 33 (.bslice [(S [])] 1 [(0, 1, (.t 32))]), o 34 (.append ty_string 1 16 (.t 31) (.t 33)), o 5 (.mov (.t 34))]) .skip)))
    (.reg [o 35 (.mov (.t 4)), o 36 (.mov (.t 8)), o 37 (.mov (.t 7)), u (.mput .str (.t 35) (.t 36) (.t 37))]))))))
  (.reg [o 38 (.bin .add (.t 15) (ci 1)), o 15 (.mov (.t 38))]))))
def pf_diff_lines : PF := ⟨41, [.t 2, .t 3],
  (.seq (.reg [o 2 (.mov (.c .nilm)), o 3 (.mov (.c .nils))])
  (.seq (.reg [o 11 .mkmap, o 4 (.mov (.t 11))])
  (.seq (.reg [o 5 (.mov (.c .nils))])
  (.seq (.seq (.reg [o 12 (.mov (.t 0)), o 13 (.call (cf fn_dump_Lines) [(.t 12)]), o 14 (.len .sl (.t 13)), o 15 (.mov (ci 0))])
  (.block 0 (.loop l1_diff_lines)))
  (.seq (.reg [o 39 (.mov (.t 4)), o 40 (.mov (.t 5)), o 2 (.mov (.t 39)), o 3 (.mov (.t 40))])
  .ret)))))⟩

def l1_diff_some_string : PC :=
  (.seq (.reg [o 11 (.bin .lss (.t 10) (.t 9))])
  (.seq (.cond (.t 11) .skip (.exit 0))
  (.seq (.block 1 (.seq (.reg [o 12 (.iaddrs 1 (.t 8) (.t 10)), o 13 (.load false 1 (.t 12)), o 7 (.mov (.t 13))])
    (.seq (.reg [o 14 (.mov (.t 1)), o 15 (.mov (.t 7)), o 16 (.call (.t 14) [(.t 15)])])
    (.cond (.t 16) (.reg [o 17 (.mov (.t 5)), o 18 (.mov (.t 7)), o 19 (.bslice [(S [])] 1 [(0, 1, (.t 18))]), o 20 (.append ty_string 1 16 (.t 17) (.t 19)), o 5 (.mov (.t 20))]) .skip))))
  (.reg [o 21 (.bin .add (.t 10) (ci 1)), o 10 (.mov (.t 21))]))))
def pf_diff_some_string : PF := ⟨23, [.t 4],
  (.seq (.reg [o 4 (.mov (.c .nils))])
  (.seq (.reg [o 5 (.mov (.c .nils))])
  (.seq (.seq (.reg [o 8 (.mov (.t 0)), o 9 (.len .sl (.t 8)), o 10 (.mov (ci 0))])
  (.block 0 (.loop l1_diff_some_string)))
  (.seq (.reg [o 22 (.mov (.t 5)), o 4 (.mov (.t 22))])
  .ret))))⟩

def pf_diff_Diff_1 : PF := ⟨14, [.t 3],
  (.seq (.reg [o 3 (.mov (.c (.bool false)))])
  (.seq (.reg [o 7 (.load false 1 (.t 1)), o 8 (.mov (.t 0)), o 9 (.lookup .str (S []) (.t 7) (.t 8) true), o 6 (.mov (.t 9)), o 10 (.ext (.t 6) 0), o 11 (.ext (.t 6) 1), o 4 (.mov (.t 10)), o 5 (.mov (.t 11))])
  (.seq (.reg [o 12 (.mov (.t 5)), o 13 (.un .not (.t 12)), o 3 (.mov (.t 13))])
  .ret)))⟩

def l1_ref31_lines : PC :=
  (.seq (.seq (.reg [o 8 (.mov (.t 5)), o 9 (.mov (.t 3)), o 10 (.len .sl (.t 9)), o 11 (.bin .lss (.t 8) (.t 10))])
  (.cond (.t 11) .skip (.exit 0)))
  (.seq (.block 1 (.seq (.reg [o 14 (.mov (.t 3)), o 15 (.mov (.t 5)), o 16 (.iaddrs 1 (.t 14) (.t 15)), o 17 (.load false 1 (.t 16)), o 18 (.ne .str (.t 17) (.c (S [])))])
    (.cond (.t 18) (.reg [o 19 (.mov (.t 4)), o 20 (.mov (.t 3)), o 21 (.mov (.t 5)), o 22 (.iaddrs 1 (.t 20) (.t 21)), o 23 (.load false 1 (.t 22)), o 24 (.bslice [(S [])] 1 [(0, 1, (.t 23))]), o 25 (.append ty_string 1 16 (.t 19) (.t 24)), o 4 (.mov (.t 25))]) .skip)))
  (.reg [o 12 (.mov (.t 5)), o 13 (.bin .add (.t 12) (ci 1)), o 5 (.mov (.t 13))])))
def pf_ref31_lines : PF := ⟨27, [.t 2],
  (.seq (.reg [o 2 (.mov (.c .nils))])
  (.seq (.reg [o 6 (.mov (.t 0)), o 7 (.call (cf fn_ref30_Lines) [(.t 6)]), o 3 (.mov (.t 7))])
  (.seq (.reg [o 4 (.mov (.c .nils))])
  (.seq (.seq (.reg [o 5 (.mov (ci 0))])
  (.block 0 (.loop l1_ref31_lines)))
  (.seq (.reg [o 26 (.mov (.t 4)), o 2 (.mov (.t 26))])
  .ret)))))⟩

def l1_ref30_Key : PC :=
  (.seq (.seq (.reg [o 5 (.mov (.t 4)), o 6 (.mov (.t 0)), o 7 (.len .str (.t 6)), o 8 (.bin .lss (.t 5) (.t 7))])
  (.cond (.t 8) .skip (.exit 0)))
  (.seq (.block 1 (.seq (.seq (.reg [o 11 (.mov (.t 0)), o 12 (.mov (.t 4)), o 13 (.idxs (.t 11) (.t 12)), o 14 (.eq .int (.t 13) (.c (.int .u8 32)))])
    (.cond (.t 14) (.reg [o 15 (.mov (.t 3)), o 16 (.bin .add (.t 15) (ci 1)), o 3 (.mov (.t 16))]) .skip))
    (.seq (.reg [o 17 (.mov (.t 3)), o 18 (.eq .int (.t 17) (ci 2))])
    (.cond (.t 18) (.seq (.reg [o 19 (.mov (.t 0)), o 20 (.mov (.t 4)), o 21 (.slstr (.t 19) none (some (.t 20))), o 2 (.mov (.t 21))])
      .ret) .skip))))
  (.reg [o 9 (.mov (.t 4)), o 10 (.bin .add (.t 9) (ci 1)), o 4 (.mov (.t 10))])))
def pf_ref30_Key : PF := ⟨23, [.t 2],
  (.seq (.reg [o 2 (.mov (.c (S [])))])
  (.seq (.reg [o 3 (.mov (ci 0))])
  (.seq (.seq (.reg [o 4 (.mov (ci 0))])
  (.block 0 (.loop l1_ref30_Key)))
  (.seq (.reg [o 22 (.mov (.t 0)), o 2 (.mov (.t 22))])
  .ret))))⟩

def l1_ref31_last : PC :=
  (.seq (.seq (.reg [o 10 (.mov (.t 6)), o 11 (.bin .geq (.t 10) (ci 0))])
  (.cond (.t 11) .skip (.exit 0)))
  (.seq (.block 1 (.seq (.reg [o 14 (.mov (.t 0)), o 15 (.mov (.t 6)), o 16 (.iaddrs 1 (.t 14) (.t 15)), o 17 (.load false 1 (.t 16)), o 18 (.call (cf fn_ref30_Key) [(.t 17)]), o 19 (.mov (.t 1)), o 20 (.eq .str (.t 18) (.t 19))])
    (.cond (.t 20) (.seq (.reg [o 21 (.mov (.t 0)), o 22 (.mov (.t 6)), o 23 (.iaddrs 1 (.t 21) (.t 22)), o 24 (.load false 1 (.t 23)), o 4 (.mov (.t 24)), o 5 (.mov (.c (.bool true)))])
      .ret) .skip)))
  (.reg [o 12 (.mov (.t 6)), o 13 (.bin .sub (.t 12) (ci 1)), o 6 (.mov (.t 13))])))
def pf_ref31_last : PF := ⟨25, [.t 4, .t 5],
  (.seq (.reg [o 4 (.mov (.c (S []))), o 5 (.mov (.c (.bool false)))])
  (.seq (.seq (.reg [o 7 (.mov (.t 0)), o 8 (.len .sl (.t 7)), o 9 (.bin .sub (.t 8) (ci 1)), o 6 (.mov (.t 9))])
  (.block 0 (.loop l1_ref31_last)))
  (.seq (.reg [o 4 (.mov (.c (S []))), o 5 (.mov (.c (.bool false)))])
  .ret)))⟩

def l1_diff_some_diff_Change : PC :=
  (.seq (.reg [o 11 (.bin .lss (.t 10) (.t 9))])
  (.seq (.cond (.t 11) .skip (.exit 0))
  (.seq (.block 1 (.seq (.reg [o 12 (.iaddrs 3 (.t 8) (.t 10)), o 13 (.load true 3 (.t 12)), o 7 (.alloc [(S []), (S []), (S [])] none), u (.store 3 (.t 7) (.t 13))])
    (.seq (.reg [o 14 (.mov (.t 1)), o 15 (.load true 3 (.t 7)), o 16 (.call (.t 14) [(.t 15)])])
    (.cond (.t 16) (.reg [o 17 (.mov (.t 5)), o 18 (.load true 3 (.t 7)), o 19 (.bslice [(S []), (S []), (S [])] 1 [(0, 3, (.t 18))]), o 20 (.append ty_diff_Change 3 48 (.t 17) (.t 19)), o 5 (.mov (.t 20))]) .skip))))
  (.reg [o 21 (.bin .add (.t 10) (ci 1)), o 10 (.mov (.t 21))]))))
def pf_diff_some_diff_Change : PF := ⟨23, [.t 4],
  (.seq (.reg [o 4 (.mov (.c .nils))])
  (.seq (.reg [o 5 (.mov (.c .nils))])
  (.seq (.seq (.reg [o 8 (.mov (.t 0)), o 9 (.len .sl (.t 8)), o 10 (.mov (ci 0))])
  (.block 0 (.loop l1_diff_some_diff_Change)))
  (.seq (.reg [o 22 (.mov (.t 5)), o 4 (.mov (.t 22))])
  .ret))))⟩

def pf_diff_Apart_1 : PF := ⟨8, [.t 3],
  (.seq (.reg [o 2 (.box (.t 0) none), o 3 (.mov (.c (.bool false)))])
  (.seq (.reg [o 4 (.load false 1 (.t 1)), o 5 (.faddr 0 (.t 2)), o 6 (.load false 1 (.t 5)), o 7 (.lookup .str (.bool false) (.t 4) (.t 6) false), o 3 (.mov (.t 7))])
  .ret))⟩

def l1_trace_Replay : PC :=
  (.seq (.reg [o 15 (.bin .lss (.t 14) (.t 13))])
  (.seq (.cond (.t 15) .skip (.exit 0))
  (.seq (.block 1 (.seq (.reg [o 16 (.iaddrs 14 (.t 12) (.t 14)), o 17 (.load true 14 (.t 16)), o 6 (.alloc [(.int .i64 0), (.int .u8 0), (.int .u32 0), (.int .u32 0), (.int .u32 0), (.int .u32 0), (.int .u64 0), (.int .i64 0), (.int .i64 0), (.int .i64 0), (.int .u64 0), (.int .u32 0), (.int .i64 0), (.int .i64 0)] none), u (.store 14 (.t 6) (.t 17))])
    (.seq (.reg [o 18 (.load true 952 (.t 4)), o 19 (.faddr 0 (.t 6)), o 20 (.load false 1 (.t 19)), o 21 (.faddr 1 (.t 6)), o 22 (.load true 6 (.t 21)), o 23 (.call (cf fn_model_State_Needs) [(.t 18), (.t 20), (.t 22)]), o 7 (.mov (.t 23))])
    (.seq (.seq (.reg [o 24 (.faddr 9 (.t 6)), o 25 (.faddr 0 (.t 24)), o 26 (.load false 1 (.t 25)), o 27 (.eq .int (.t 26) (ci 6)), o 28 (.mov (.t 27)), gt 28 (some 29) (.mov (.t 7)), gt 28 (some 30) (.bin .gtr (.t 29) (ci 0)), o 31 (.pick (.t 28) (.t 30) (.c (.bool false)))])
    (.cond (.t 31) (.exit 1) .skip))
    (.seq (.reg [o 33 (.load true 952 (.t 4)), o 34 (.faddr 0 (.t 6)), o 35 (.load false 1 (.t 34)), o 36 (.faddr 1 (.t 6)), o 37 (.load true 6 (.t 36)), o 38 (.faddr 7 (.t 6)), o 39 (.load true 2 (.t 38)), o 40 (.call (cf fn_model_State_Do) [(.t 33), (.t 35), (.t 37), (.t 39)]), o 32 (.mov (.t 40)), o 41 (.ext (.t 32) 0), o 42 (.ext (.t 32) 1), o 43 (.ext (.t 32) 2), o 8 (.alloc z952_2fb3 none), o 9 (.alloc [(.int .i64 0), (.int .u64 0), (.int .u32 0)] none), u (.store 952 (.t 8) (.t 41)), u (.store 3 (.t 9) (.t 42)), o 10 (.mov (.t 43))])
    (.seq (.seq (.reg [o 44 (.faddr 1 (.t 6)), o 45 (.faddr 0 (.t 44)), o 46 (.load false 1 (.t 45)), o 47 (.eq .int (.t 46) (.c (.int .u8 3)))])
    (.cond (.t 47) (.reg [o 48 (.faddr 9 (.t 6)), o 49 (.faddr 1 (.t 48)), o 50 (.load false 1 (.t 49)), o 51 (.faddr 1 (.t 9)), u (.store 1 (.t 51) (.t 50))]) .skip))
    (.seq (.seq (.reg [o 52 (.mov (.t 7)), o 53 (.faddr 7 (.t 6)), o 54 (.faddr 1 (.t 53)), o 55 (.load false 1 (.t 54)), o 56 (.ne .int (.t 52) (.t 55)), o 57 (.mov (.t 56)), gf 57 (some 58) (.load true 3 (.t 9)), gf 57 (some 59) (.faddr 9 (.t 6)), gf 57 (some 60) (.load true 3 (.t 59)), gf 57 (some 61) (.ne (.agg [.int, .int, .int]) (.t 58) (.t 60)), o 62 (.pick (.t 57) (.c (.bool true)) (.t 61))])
    (.cond (.t 62) (.seq (.reg [o 63 (.load true 952 (.t 4)), u (.store 952 (.t 2) (.t 63)), o 3 (.mov (.c (.bool false)))])
      .ret) .skip))
    (.reg [o 64 (.load true 952 (.t 8)), u (.store 952 (.t 4) (.t 64))]))))))))
  (.reg [o 65 (.bin .add (.t 14) (ci 1)), o 14 (.mov (.t 65))]))))
def pf_trace_Replay : PF := ⟨67, [.cell 2 true 952, .t 3],
  (.seq (.reg [o 2 (.alloc z952_2fb3 none), o 3 (.mov (.c (.bool false)))])
  (.seq (.reg [o 11 (.call (cf fn_model_Begin) []), o 4 (.alloc z952_2fb3 none), u (.store 952 (.t 4) (.t 11))])
  (.seq (.seq (.reg [o 12 (.mov (.t 0)), o 13 (.len .sl (.t 12)), o 14 (.mov (ci 0))])
  (.block 0 (.loop l1_trace_Replay)))
  (.seq (.reg [o 66 (.load true 952 (.t 4)), u (.store 952 (.t 2) (.t 66)), o 3 (.mov (.c (.bool true)))])
  .ret))))⟩

def pf_model_Begin : PF := ⟨7, [.cell 0 true 952],
  (.seq (.reg [o 0 (.alloc z952_2fb3 none)])
  (.seq (.reg [o 1 (.alloc z952_2fb3 none)])
  (.seq (.reg [o 2 (.faddr 936 (.t 1)), o 3 (.iaddra 8 1 (.t 2) (ci 0)), u (.store 1 (.t 3) (.c (.bool true))), o 4 (.faddr 944 (.t 1)), o 5 (.iaddra 8 1 (.t 4) (ci 0)), u (.store 1 (.t 5) (.c (.bool true)))])
  (.seq (.reg [o 6 (.load true 952 (.t 1)), u (.store 952 (.t 0) (.t 6))])
  .ret))))⟩

def pf_dump_State : PF := ⟨13, [.t 2],
  (.seq (.reg [o 1 (.box (.t 0) none), o 2 (.mov (.c (S [])))])
  (.seq (.reg [o 4 (.build [.nilp, .nils] []), o 5 (.box (.t 4) (some ty_dump_dumper)), o 3 (.mov (.t 5))])
  (.seq (.reg [o 6 (.mov (.t 3)), o 7 (.load true 952 (.t 1)), o 8 (.call (cf fn_Pdump_dumper_state) [(.t 6), (.t 7)])])
  (.seq (.reg [o 9 (.mov (.t 3)), o 10 (.nilck (.t 9)), o 11 (.faddr 0 (.t 10)), o 12 (.call (cf fn_Pstrings_Builder_String) [(.t 11)]), o 2 (.mov (.t 12))])
  .ret))))⟩

def pf_model_State_Do : PF := ⟨35, [.cell 8 true 952, .cell 9 true 3, .t 10],
  (.seq (.reg [o 4 (.box (.t 0) none), o 6 (.box (.t 2) none), o 7 (.box (.t 3) none), o 8 (.alloc z952_2fb3 none), o 9 (.alloc [(.int .i64 0), (.int .u64 0), (.int .u32 0)] none), o 10 (.mov (.c .nils))])
  (.seq (.reg [o 13 (.load true 952 (.t 4)), o 14 (.mov (.t 1)), o 15 (.load true 6 (.t 6)), o 16 (.load true 2 (.t 7)), o 17 (.build z964_ded6 [(0, 952, (.t 13)), (952, 1, (.t 14)), (953, 6, (.t 15)), (959, 2, (.t 16))]), o 18 (.box (.t 17) none), o 11 (.mov (.t 18))])
  (.seq (.reg [o 19 (.mov (.t 11)), o 20 (.call (cf fn_Pmodel_caller_calls) [(.t 19)]), o 12 (.alloc [(.int .i64 0), (.int .u64 0), (.int .u32 0)] none), u (.store 3 (.t 12) (.t 20))])
  (.seq (.seq (.reg [o 21 (.faddr 0 (.t 12)), o 22 (.load false 1 (.t 21)), o 23 (.ne .int (.t 22) (ci 0))])
  (.cond (.t 23) (.seq (.dreg [(o 24 (.load true 952 (.t 4)), []), (o 25 (.load true 3 (.t 12)), [0]), (u (.store 952 (.t 8) (.t 24)), [1]), (u (.store 3 (.t 9) (.t 25)), []), (o 10 (.mov (.c .nils)), [])])
    .ret) .skip))
  (.seq (.dreg [(o 26 (.mov (.t 11)), []), (o 27 (.nilck (.t 26)), []), (o 28 (.faddr 0 (.t 27)), []), (o 29 (.load true 952 (.t 28)), []), (o 30 (.load true 3 (.t 12)), [3]), (o 31 (.mov (.t 11)), []), (o 32 (.nilck (.t 31)), []), (o 33 (.faddr 963 (.t 32)), []), (o 34 (.load false 1 (.t 33)), [3, 4]), (u (.store 952 (.t 8) (.t 29)), [4, 8]), (u (.store 3 (.t 9) (.t 30)), [8]), (o 10 (.mov (.t 34)), [])])
  .ret)))))⟩

def pf_dump_Lines : PF := ⟨8, [.t 2],
  (.seq (.reg [o 2 (.mov (.c .nils))])
  (.seq (.seq (.reg [o 3 (.mov (.t 0)), o 4 (.eq .str (.t 3) (.c (S [])))])
  (.cond (.t 4) (.seq (.reg [o 2 (.mov (.c .nils))])
    .ret) .skip))
  (.seq (.reg [o 5 (.mov (.t 0)), o 6 (.call (cf fn_strings_TrimSuffix) [(.t 5), (.c (S [10]))]), o 7 (.call (cf fn_strings_Split) [(.t 6), (.c (S [10]))]), o 2 (.mov (.t 7))])
  .ret)))⟩

def pf_dump_Key : PF := ⟨28, [.t 2],
  (.seq (.reg [o 2 (.mov (.c (S [])))])
  (.seq (.reg [o 10 (.mov (.t 0)), o 11 (.call (cf fn_strings_Cut) [(.t 10), (.c (S [32]))]), o 9 (.mov (.t 11)), o 12 (.ext (.t 9) 0), o 13 (.ext (.t 9) 1), o 14 (.ext (.t 9) 2), o 3 (.mov (.t 12)), o 4 (.mov (.t 13)), o 5 (.mov (.t 14))])
  (.seq (.reg [o 16 (.mov (.t 4)), o 17 (.call (cf fn_strings_Cut) [(.t 16), (.c (S [32]))]), o 15 (.mov (.t 17)), o 18 (.ext (.t 15) 0), o 19 (.ext (.t 15) 1), o 20 (.ext (.t 15) 2), o 6 (.mov (.t 18)), o 7 (.mov (.t 19)), o 8 (.mov (.t 20))])
  (.seq (.seq (.reg [o 21 (.mov (.t 5)), o 22 (.un .not (.t 21))])
  (.cond (.t 22) (.seq (.reg [o 23 (.mov (.t 3)), o 2 (.mov (.t 23))])
    .ret) .skip))
  (.seq (.reg [o 24 (.mov (.t 3)), o 25 (.bin .add (.t 24) (.c (S [32]))), o 26 (.mov (.t 6)), o 27 (.bin .add (.t 25) (.t 26)), o 2 (.mov (.t 27))])
  .ret)))))⟩

def l1_ref30_Lines : PC :=
  (.seq (.seq (.reg [o 6 (.mov (.t 5)), o 7 (.mov (.t 0)), o 8 (.len .str (.t 7)), o 9 (.bin .lss (.t 6) (.t 8))])
  (.cond (.t 9) .skip (.exit 0)))
  (.seq (.block 1 (.seq (.reg [o 12 (.mov (.t 0)), o 13 (.mov (.t 5)), o 14 (.idxs (.t 12) (.t 13)), o 15 (.eq .int (.t 14) (.c (.int .u8 10)))])
    (.cond (.t 15) (.seq (.reg [o 16 (.mov (.t 3)), o 17 (.mov (.t 4)), o 18 (.bslice [(S [])] 1 [(0, 1, (.t 17))]), o 19 (.append ty_string 1 16 (.t 16) (.t 18)), o 3 (.mov (.t 19))])
      (.reg [o 4 (.mov (.c (S [])))])) (.reg [o 20 (.mov (.t 4)), o 21 (.mov (.t 0)), o 22 (.mov (.t 5)), o 23 (.mov (.t 5)), o 24 (.bin .add (.t 23) (ci 1)), o 25 (.slstr (.t 21) (some (.t 22)) (some (.t 24))), o 26 (.bin .add (.t 20) (.t 25)), o 4 (.mov (.t 26))]))))
  (.reg [o 10 (.mov (.t 5)), o 11 (.bin .add (.t 10) (ci 1)), o 5 (.mov (.t 11))])))
def pf_ref30_Lines : PF := ⟨34, [.t 2],
  (.seq (.reg [o 2 (.mov (.c .nils))])
  (.seq (.reg [o 3 (.mov (.c .nils))])
  (.seq (.reg [o 4 (.mov (.c (S [])))])
  (.seq (.seq (.reg [o 5 (.mov (ci 0))])
  (.block 0 (.loop l1_ref30_Lines)))
  (.seq (.seq (.reg [o 27 (.mov (.t 4)), o 28 (.ne .str (.t 27) (.c (S [])))])
  (.cond (.t 28) (.reg [o 29 (.mov (.t 3)), o 30 (.mov (.t 4)), o 31 (.bslice [(S [])] 1 [(0, 1, (.t 30))]), o 32 (.append ty_string 1 16 (.t 29) (.t 31)), o 3 (.mov (.t 32))]) .skip))
  (.seq (.reg [o 33 (.mov (.t 3)), o 2 (.mov (.t 33))])
  .ret))))))⟩

def pf_model_State_Needs : PF := ⟨26, [.t 6],
  (.seq (.reg [o 3 (.box (.t 0) none), o 5 (.box (.t 2) none), o 6 (.mov (ci 0))])
  (.seq (.reg [o 8 (.load true 952 (.t 3)), o 9 (.mov (.t 1)), o 10 (.load true 6 (.t 5)), o 11 (.build z964_ded6 [(0, 952, (.t 8)), (952, 1, (.t 9)), (953, 6, (.t 10)), (962, 1, (.c (.bool true)))]), o 12 (.box (.t 11) none), o 7 (.mov (.t 12))])
  (.seq (.seq (.reg [o 13 (.faddr 0 (.t 5)), o 14 (.load false 1 (.t 13)), o 15 (.ne .int (.t 14) (.c (.int .u8 2))), o 16 (.mov (.t 15)), gf 16 (some 17) (.mov (.t 7)), gf 16 (some 18) (.call (cf fn_Pmodel_caller_calls) [(.t 17)]), gf 16 (some 19) (.fld false 1 0 (.t 18)), gf 16 (some 20) (.ne .int (.t 19) (ci 0)), o 21 (.pick (.t 16) (.c (.bool true)) (.t 20))])
  (.cond (.t 21) (.seq (.reg [o 6 (.mov (ci 0))])
    .ret) .skip))
  (.seq (.reg [o 22 (.mov (.t 7)), o 23 (.nilck (.t 22)), o 24 (.faddr 961 (.t 23)), o 25 (.load false 1 (.t 24)), o 6 (.mov (.t 25))])
  .ret))))⟩

def l3_Pdump_dumper_state : PC :=
  (.seq (.reg [o 58 (.bin .lss (.t 57) (.t 56))])
  (.seq (.cond (.t 58) .skip (.exit 4))
  (.seq (.block 5 (.seq (.reg [o 59 (.iaddrs 4 (.t 55) (.t 57)), o 60 (.load true 4 (.t 59)), o 8 (.alloc [(.int .u8 0), (.int .u64 0), (.int .u32 0), (.bool false)] none), u (.store 4 (.t 8) (.t 60))])
    (.reg [o 61 (.mov (.t 6)), o 62 (.mki ty_string (.c (S [102, 114, 111, 109]))), o 63 (.faddr 0 (.t 8)), o 64 (.load false 1 (.t 63)), o 65 (.mki ty_uint8 (.t 64)), o 66 (.mki ty_string (.c (S [119, 111, 114, 100]))), o 67 (.faddr 1 (.t 8)), o 68 (.load false 1 (.t 67)), o 69 (.mki ty_uint64 (.t 68)), o 70 (.mki ty_string (.c (S [114, 101, 103, 105, 111, 110]))), o 71 (.faddr 2 (.t 8)), o 72 (.load false 1 (.t 71)), o 73 (.mki ty_handle_Handle (.t 72)), o 74 (.mki ty_string (.c (S [115, 104, 97, 114, 101]))), o 75 (.faddr 3 (.t 8)), o 76 (.load false 1 (.t 75)), o 77 (.mki ty_bool (.t 76)), o 78 (.bslice [.nili] 8 [(0, 1, (.t 62)), (1, 1, (.t 65)), (2, 1, (.t 66)), (3, 1, (.t 69)), (4, 1, (.t 70)), (5, 1, (.t 73)), (6, 1, (.t 74)), (7, 1, (.t 77))]), o 79 (.append ty_interface 1 16 (.t 61) (.t 78)), o 6 (.mov (.t 79))])))
  (.reg [o 80 (.bin .add (.t 57) (ci 1)), o 57 (.mov (.t 80))]))))
def l2_Pdump_dumper_state : PC :=
  (.seq (.reg [o 38 (.bin .lss (.t 37) (ci 8))])
  (.seq (.cond (.t 38) .skip (.exit 2))
  (.seq (.block 3 (.seq (.reg [o 39 (.mov (.t 37)), o 5 (.mov (.t 39))])
    (.seq (.reg [o 40 (.mki ty_string (.c (S [98, 111, 120]))), o 41 (.mov (.t 5)), o 42 (.mki ty_int (.t 41)), o 43 (.mki ty_string (.c (S [99, 108, 111, 115, 101, 100]))), o 44 (.mov (.t 5)), o 45 (.faddr 784 (.t 3)), o 46 (.iaddra 8 19 (.t 45) (.t 44)), o 47 (.load true 19 (.t 46)), o 48 (.call (cf fn_mail_Box_Closed) [(.t 47)]), o 49 (.mki ty_bool (.t 48)), o 50 (.bslice [.nili] 4 [(0, 1, (.t 40)), (1, 1, (.t 42)), (2, 1, (.t 43)), (3, 1, (.t 49))]), o 6 (.mov (.t 50))])
    (.seq (.seq (.reg [o 51 (.mov (.t 5)), o 52 (.faddr 784 (.t 3)), o 53 (.iaddra 8 19 (.t 52) (.t 51)), o 54 (.load true 19 (.t 53)), o 55 (.call (cf fn_mail_Box_All) [(.t 54)]), o 56 (.len .sl (.t 55)), o 57 (.mov (ci 0))])
    (.block 4 (.loop l3_Pdump_dumper_state)))
    (.reg [o 81 (.mov (.t 0)), o 82 (.mov (.t 6)), o 83 (.call (cf fn_Pdump_dumper_line) [(.t 81), (.t 82)])])))))
  (.reg [o 84 (.bin .add (.t 37) (ci 1)), o 37 (.mov (.t 84))]))))
def l1_Pdump_dumper_state : PC :=
  (.seq (.reg [o 16 (.bin .lss (.t 15) (ci 8))])
  (.seq (.cond (.t 16) .skip (.exit 0))
  (.seq (.block 1 (.seq (.reg [o 17 (.mov (.t 15)), o 4 (.mov (.t 17))])
    (.dreg [(o 18 (.mov (.t 0)), []), (o 19 (.mki ty_string (.c (S [108, 105, 102, 101]))), []), (o 20 (.mov (.t 4)), []), (o 21 (.mki ty_int (.t 20)), []), (o 22 (.mki ty_string (.c (S [97, 108, 105, 118, 101]))), []), (o 23 (.mov (.t 4)), []), (o 24 (.faddr 936 (.t 3)), []), (o 25 (.iaddra 8 1 (.t 24) (.t 23)), []), (o 26 (.load false 1 (.t 25)), []), (o 27 (.mki ty_bool (.t 26)), []), (o 28 (.mki ty_string (.c (S [98, 111, 114, 110]))), []), (o 29 (.mov (.t 4)), []), (o 30 (.faddr 944 (.t 3)), []), (o 31 (.iaddra 8 1 (.t 30) (.t 29)), []), (o 32 (.load false 1 (.t 31)), [8]), (o 33 (.mki ty_bool (.t 32)), []), (o 34 (.bslice [.nili] 6 [(0, 1, (.t 19)), (1, 1, (.t 21)), (2, 1, (.t 22)), (3, 1, (.t 27)), (4, 1, (.t 28)), (5, 1, (.t 33))]), []), (o 35 (.call (cf fn_Pdump_dumper_line) [(.t 18), (.t 34)]), [])])))
  (.reg [o 36 (.bin .add (.t 15) (ci 1)), o 15 (.mov (.t 36))]))))
def pf_Pdump_dumper_state : PF := ⟨85, [],
  (.seq (.reg [o 3 (.box (.t 1) none)])
  (.seq (.reg [o 9 (.mov (.t 0)), o 10 (.load true 952 (.t 3)), o 11 (.call (cf fn_Pdump_dumper_regions) [(.t 9), (.t 10)])])
  (.seq (.reg [o 12 (.mov (.t 0)), o 13 (.load true 952 (.t 3)), o 14 (.call (cf fn_Pdump_dumper_tokens) [(.t 12), (.t 13)])])
  (.seq (.seq (.reg [o 15 (.mov (ci 0))])
  (.block 0 (.loop l1_Pdump_dumper_state)))
  (.seq (.reg [o 37 (.mov (ci 0))])
  (.block 2 (.loop l2_Pdump_dumper_state)))))))⟩

def pf_Pstrings_Builder_String : PF := ⟨14, [.t 2],
  (.seq (.reg [o 2 (.mov (.c (S [])))])
  (.seq (.dreg [(o 3 (.mov (.t 0)), []), (o 4 (.nilck (.t 3)), []), (o 5 (.faddr 1 (.t 4)), []), (o 6 (.load false 1 (.t 5)), []), (o 7 (.usd (.t 6)), []), (o 8 (.mov (.t 0)), []), (o 9 (.nilck (.t 8)), []), (o 10 (.faddr 1 (.t 9)), []), (o 11 (.load false 1 (.t 10)), [3]), (o 12 (.len .sl (.t 11)), [3]), (o 13 (.ustr ty_uint8 (.t 7) (.t 12)), []), (o 2 (.mov (.t 13)), [])])
  .ret))⟩

def pd_Pmodel_caller_calls : PDef := ⟨47, [.cell 2 true 3],
  (.later (.reg [o 2 (.alloc [(.int .i64 0), (.int .u64 0), (.int .u32 0)] none)])
  (.here [o 5 (.mkf (.func fn_Pmodel_caller_calls_1) [] [(.t 2)])] (.t 5) []
  (.seq (.dreg [(o 6 (.mov (.t 0)), []), (o 7 (.nilck (.t 6)), []), (o 8 (.faddr 952 (.t 7)), []), (o 9 (.load false 1 (.t 8)), []), (o 10 (.bin .geq (.t 9) (ci 0)), []), (o 11 (.mov (.t 10)), []), (gt 11 (some 12) (.mov (.t 0)), []), (gt 11 (some 13) (.nilck (.t 12)), []), (gt 11 (some 14) (.faddr 952 (.t 13)), []), (gt 11 (some 15) (.load false 1 (.t 14)), []), (gt 11 (some 16) (.bin .lss (.t 15) (ci 8)), []), (o 17 (.pick (.t 11) (.t 16) (.c (.bool false))), []), (o 18 (.mov (.t 17)), []), (gt 18 (some 19) (.mov (.t 0)), []), (gt 18 (some 20) (.mov (.t 0)), []), (gt 18 (some 21) (.nilck (.t 20)), []), (gt 18 (some 22) (.faddr 952 (.t 21)), []), (gt 18 (some 23) (.load false 1 (.t 22)), []), (gt 18 (some 24) (.bin .and (.t 23) (ci 7)), []), (gt 18 (some 25) (.nilck (.t 19)), []), (gt 18 (some 26) (.faddr 0 (.t 25)), []), (gt 18 (some 27) (.faddr 936 (.t 26)), []), (gt 18 (some 28) (.iaddra 8 1 (.t 27) (.t 24)), []), (gt 18 (some 29) (.load false 1 (.t 28)), []), (o 30 (.pick (.t 18) (.t 29) (.c (.bool false))), []), (o 31 (.call (cf fn_model_ask) [(.t 30), (ci 12)]), [])])
  (.seq (.dreg [(o 33 (.load false 1 (.c (.glob g_model_does))), []), (o 34 (.mov (.t 0)), []), (o 35 (.nilck (.t 34)), []), (o 36 (.faddr 953 (.t 35)), []), (o 37 (.faddr 0 (.t 36)), []), (o 38 (.load false 1 (.t 37)), [0]), (o 39 (.lookup .int .nilf (.t 33) (.t 38) true), []), (o 32 (.mov (.t 39)), []), (o 40 (.ext (.t 32) 0), []), (o 41 (.ext (.t 32) 1), []), (o 3 (.mov (.t 40)), []), (o 4 (.mov (.t 41)), [])])
  (.seq (.reg [o 42 (.mov (.t 4)), o 43 (.call (cf fn_model_ask) [(.t 42), (ci 2)])])
  (.seq (.reg [o 44 (.mov (.t 3)), o 45 (.mov (.t 0)), o 46 (.call (.t 44) [(.t 45)]), u (.store 3 (.t 2) (.t 46))])
  .ret))))))⟩

def pf_strings_Split : PF := ⟨8, [.t 4],
  (.seq (.reg [o 4 (.mov (.c .nils))])
  (.seq (.reg [o 5 (.mov (.t 0)), o 6 (.mov (.t 1)), o 7 (.call (cf fn_strings_genSplit) [(.t 5), (.t 6), (ci 0), (ci (-1))]), o 4 (.mov (.t 7))])
  .ret))⟩

def pf_strings_TrimSuffix : PF := ⟨8, [.t 4],
  (.seq (.reg [o 4 (.mov (.c (S [])))])
  (.seq (.reg [o 5 (.mov (.t 0)), o 6 (.mov (.t 1)), o 7 (.call (cf fn_istringslite_TrimSuffix) [(.t 5), (.t 6)]), o 4 (.mov (.t 7))])
  .ret))⟩

def pf_strings_Cut : PF := ⟨13, [.t 4, .t 5, .t 6],
  (.seq (.reg [o 4 (.mov (.c (S []))), o 5 (.mov (.c (S []))), o 6 (.mov (.c (.bool false)))])
  (.seq (.reg [o 7 (.mov (.t 0)), o 8 (.mov (.t 1)), o 9 (.call (cf fn_istringslite_Cut) [(.t 7), (.t 8)]), o 10 (.ext (.t 9) 0), o 11 (.ext (.t 9) 1), o 12 (.ext (.t 9) 2), o 4 (.mov (.t 10)), o 5 (.mov (.t 11)), o 6 (.mov (.t 12))])
  .ret))⟩

def l2_Pdump_dumper_regions : PC :=
  (.seq (.block 3 (.seq (.reg [o 85 (.load true 480 (.t 10)), o 86 (.call (cf fn_table_Table_New) [(.t 85), (.c (.int .u32 0)), (ci 0)]), o 84 (.mov (.t 86)), o 87 (.ext (.t 84) 0), o 88 (.ext (.t 84) 1), o 89 (.ext (.t 84) 2), o 11 (.alloc z480_3a0d none), u (.store 480 (.t 11) (.t 87)), o 12 (.mov (.t 88)), o 13 (.mov (.t 89))])
    (.seq (.seq (.reg [o 90 (.mov (.t 13)), o 91 (.ne .int (.t 90) (ci 0))])
    (.cond (.t 91) (.exit 2) .skip))
    (.dreg [(o 92 (.load true 480 (.t 11)), []), (o 93 (.mov (.t 9)), []), (o 94 (.mov (.t 12)), []), (o 95 (.bslice [(.int .u32 0)] 1 [(0, 1, (.t 94))]), []), (o 96 (.append ty_handle_Handle 1 4 (.t 93) (.t 95)), [0]), (u (.store 480 (.t 10) (.t 92)), []), (o 9 (.mov (.t 96)), [])]))))
  (.seq (.reg [o 97 (.load true 480 (.t 10))])
  (.reg [o 10 (.alloc z480_3a0d none), u (.store 480 (.t 10) (.t 97))])))
def l1_Pdump_dumper_regions : PC :=
  (.seq (.reg [o 21 (.bin .lss (.t 20) (.t 19))])
  (.seq (.cond (.t 21) .skip (.exit 0))
  (.seq (.block 1 (.seq (.reg [o 22 (.iaddrs 1 (.t 18) (.t 20)), o 23 (.load false 1 (.t 22)), o 5 (.mov (.t 23))])
    (.seq (.reg [o 25 (.faddr 0 (.t 3)), o 26 (.faddr 0 (.t 25)), o 27 (.load true 480 (.t 26)), o 28 (.mov (.t 5)), o 29 (.call (cf fn_table_Table_Get) [(.t 27), (.t 28)]), o 24 (.mov (.t 29)), o 30 (.ext (.t 24) 0), o 31 (.ext (.t 24) 1), o 6 (.alloc [(.int .u32 0), (.int .i64 0), .nils, (.int .i64 0), (.int .u32 0), (.int .u32 0), (.int .u32 0), (.int .u32 0), (.int .u32 0), (.int .u32 0), (.int .u32 0), (.int .u32 0)] none), u (.store 12 (.t 6) (.t 30)), o 7 (.mov (.t 31))])
    (.seq (.reg [o 32 (.faddr 0 (.t 3)), o 33 (.faddr 480 (.t 32)), o 34 (.load true 128 (.t 33)), o 35 (.faddr 0 (.t 3)), o 36 (.faddr 0 (.t 35)), o 37 (.load true 480 (.t 36)), o 38 (.mov (.t 5)), o 39 (.call (cf fn_own_Owns_Of) [(.t 34), (.t 37), (.t 38)]), o 8 (.alloc [(.int .u8 0), (.int .u8 0), (.int .u8 0)] none), u (.store 3 (.t 8) (.t 39))])
    (.dreg [(o 40 (.mov (.t 0)), []), (o 41 (.mki ty_string (.c (S [114, 101, 103, 105, 111, 110]))), []), (o 42 (.mov (.t 5)), []), (o 43 (.mki ty_handle_Handle (.t 42)), []), (o 44 (.mki ty_string (.c (S [117, 112]))), []), (o 45 (.faddr 0 (.t 6)), []), (o 46 (.load false 1 (.t 45)), []), (o 47 (.mki ty_handle_Handle (.t 46)), []), (o 48 (.mki ty_string (.c (S [113, 117, 111, 116, 97]))), []), (o 49 (.faddr 1 (.t 6)), []), (o 50 (.load false 1 (.t 49)), [6]), (o 51 (.mki ty_int (.t 50)), []), (o 52 (.mki ty_string (.c (S [117, 115, 101, 100]))), []), (o 53 (.faddr 2 (.t 6)), []), (o 54 (.faddr 1 (.t 53)), []), (o 55 (.load false 1 (.t 54)), [6, 10]), (o 56 (.mki ty_int (.t 55)), []), (o 57 (.mki ty_string (.c (S [114, 117, 110, 115]))), []), (o 58 (.faddr 2 (.t 6)), []), (o 59 (.faddr 0 (.t 58)), []), (o 60 (.load false 1 (.t 59)), [6, 10, 15]), (o 61 (.call (cf fn_dump_list_runs_Run) [(.t 60)]), [6, 10, 15]), (o 62 (.mki ty_string (.t 61)), []), (o 63 (.mki ty_string (.c (S [99, 101, 108, 108, 115]))), []), (o 64 (.faddr 4 (.t 6)), []), (o 65 (.slarr 8 1 (.t 64) none none), []), (o 66 (.call (cf fn_dump_list_handle_Handle) [(.t 65)]), [6, 10, 15]), (o 67 (.mki ty_string (.t 66)), []), (o 68 (.mki ty_string (.c (S [111, 119, 110]))), []), (o 69 (.faddr 0 (.t 8)), []), (o 70 (.load false 1 (.t 69)), [6, 10, 15, 20, 21, 26]), (o 71 (.mki ty_uint8 (.t 70)), []), (o 72 (.faddr 1 (.t 8)), []), (o 73 (.load false 1 (.t 72)), [6, 10, 15, 20, 21, 26, 30]), (o 74 (.mki ty_uint8 (.t 73)), []), (o 75 (.faddr 2 (.t 8)), []), (o 76 (.load false 1 (.t 75)), [6, 10, 15, 20, 21, 26, 30, 33]), (o 77 (.mki ty_uint8 (.t 76)), []), (o 78 (.bslice [.nili] 16 [(0, 1, (.t 41)), (1, 1, (.t 43)), (2, 1, (.t 44)), (3, 1, (.t 47)), (4, 1, (.t 48)), (5, 1, (.t 51)), (6, 1, (.t 52)), (7, 1, (.t 56)), (8, 1, (.t 57)), (9, 1, (.t 62)), (10, 1, (.t 63)), (11, 1, (.t 67)), (12, 1, (.t 68)), (13, 1, (.t 71)), (14, 1, (.t 74)), (15, 1, (.t 77))]), []), (o 79 (.call (cf fn_Pdump_dumper_line) [(.t 40), (.t 78)]), [])])))))
  (.reg [o 80 (.bin .add (.t 20) (ci 1)), o 20 (.mov (.t 80))]))))
def pf_Pdump_dumper_regions : PF := ⟨106, [],
  (.seq (.reg [o 3 (.box (.t 1) none)])
  (.seq (.seq (.reg [o 14 (.faddr 0 (.t 3)), o 15 (.faddr 0 (.t 14)), o 16 (.faddr 0 (.t 15)), o 17 (.load true 96 (.t 16)), o 18 (.call (cf fn_table_book_All) [(.t 17)]), o 19 (.len .sl (.t 18)), o 20 (.mov (ci 0))])
  (.block 0 (.loop l1_Pdump_dumper_regions)))
  (.seq (.reg [o 9 (.mov (.c .nils))])
  (.seq (.seq (.reg [o 81 (.faddr 0 (.t 3)), o 82 (.faddr 0 (.t 81)), o 83 (.load true 480 (.t 82)), o 10 (.alloc z480_3a0d none), u (.store 480 (.t 10) (.t 83))])
  (.block 2 (.loop l2_Pdump_dumper_regions)))
  (.reg [o 98 (.mov (.t 0)), o 99 (.mki ty_string (.c (S [110, 101, 120, 116]))), o 100 (.mki ty_string (.c (S [116, 97, 98, 108, 101]))), o 101 (.mov (.t 9)), o 102 (.call (cf fn_dump_list_handle_Handle) [(.t 101)]), o 103 (.mki ty_string (.t 102)), o 104 (.bslice [.nili] 3 [(0, 1, (.t 99)), (1, 1, (.t 100)), (2, 1, (.t 103))]), o 105 (.call (cf fn_Pdump_dumper_line) [(.t 98), (.t 104)])])))))⟩

def l4_Pdump_dumper_tokens : PC :=
  (.seq (.block 7 (.seq (.reg [o 94 (.load true 176 (.t 16)), o 95 (.build [(.int .u32 0), (.int .u8 0), (.int .u8 0), (.bool false), (.int .u32 0)] [(0, 1, (.c (.int .u32 4294967295))), (2, 1, (.c (.int .u8 1)))]), o 96 (.call (cf fn_token_Tokens_Lend) [(.t 94), (.t 95)]), o 93 (.mov (.t 96)), o 97 (.ext (.t 93) 0), o 98 (.ext (.t 93) 1), o 99 (.ext (.t 93) 2), o 17 (.alloc z176_e02c none), u (.store 176 (.t 17) (.t 97)), o 18 (.mov (.t 98)), o 19 (.mov (.t 99))])
    (.seq (.seq (.reg [o 100 (.mov (.t 19)), o 101 (.ne .int (.t 100) (ci 0))])
    (.cond (.t 101) (.exit 6) .skip))
    (.dreg [(o 102 (.load true 176 (.t 17)), []), (o 103 (.mov (.t 15)), []), (o 104 (.mov (.t 18)), []), (o 105 (.bslice [(.int .u32 0)] 1 [(0, 1, (.t 104))]), []), (o 106 (.append ty_handle_Handle 1 4 (.t 103) (.t 105)), [0]), (u (.store 176 (.t 16) (.t 102)), []), (o 15 (.mov (.t 106)), [])]))))
  (.seq (.reg [o 107 (.load true 176 (.t 16))])
  (.reg [o 16 (.alloc z176_e02c none), u (.store 176 (.t 16) (.t 107))])))
def l3_Pdump_dumper_tokens : PC :=
  (.seq (.reg [o 45 (.bin .lss (.t 44) (ci 16))])
  (.seq (.cond (.t 45) .skip (.exit 4))
  (.seq (.block 5 (.seq (.reg [o 46 (.mov (.t 44)), o 10 (.mov (.t 46))])
    (.seq (.reg [o 48 (.mov (.t 4)), o 49 (.mov (.t 10)), o 50 (.lookup .int (.int .u32 0) (.t 48) (.t 49) true), o 47 (.mov (.t 50)), o 51 (.ext (.t 47) 0), o 52 (.ext (.t 47) 1), o 11 (.mov (.t 51)), o 12 (.mov (.t 52))])
    (.seq (.seq (.reg [o 53 (.mov (.t 12)), o 54 (.un .not (.t 53))])
    (.cond (.t 54) (.exit 5) .skip))
    (.seq (.reg [o 56 (.faddr 0 (.t 3)), o 57 (.faddr 608 (.t 56)), o 58 (.load true 176 (.t 57)), o 59 (.mov (.t 11)), o 60 (.call (cf fn_token_Tokens_Get) [(.t 58), (.t 59)]), o 55 (.mov (.t 60)), o 61 (.ext (.t 55) 0), o 62 (.ext (.t 55) 1), o 13 (.alloc [(.int .u32 0), (.int .u8 0), (.int .u8 0), (.bool false), (.int .u32 0)] none), u (.store 5 (.t 13) (.t 61)), o 14 (.mov (.t 62))])
    (.reg [o 63 (.mov (.t 0)), o 64 (.mki ty_string (.c (S [116, 111, 107, 101, 110]))), o 65 (.mov (.t 11)), o 66 (.mki ty_handle_Handle (.t 65)), o 67 (.mki ty_string (.c (S [114, 101, 103, 105, 111, 110]))), o 68 (.faddr 0 (.t 13)), o 69 (.load false 1 (.t 68)), o 70 (.mki ty_handle_Handle (.t 69)), o 71 (.mki ty_string (.c (S [98, 121]))), o 72 (.faddr 1 (.t 13)), o 73 (.load false 1 (.t 72)), o 74 (.mki ty_uint8 (.t 73)), o 75 (.mki ty_string (.c (S [116, 111]))), o 76 (.faddr 2 (.t 13)), o 77 (.load false 1 (.t 76)), o 78 (.mki ty_uint8 (.t 77)), o 79 (.mki ty_string (.c (S [109, 117, 116, 97, 98, 108, 101]))), o 80 (.faddr 3 (.t 13)), o 81 (.load false 1 (.t 80)), o 82 (.mki ty_bool (.t 81)), o 83 (.mki ty_string (.c (S [97, 98, 111, 118, 101]))), o 84 (.faddr 4 (.t 13)), o 85 (.load false 1 (.t 84)), o 86 (.mki ty_handle_Handle (.t 85)), o 87 (.bslice [.nili] 12 [(0, 1, (.t 64)), (1, 1, (.t 66)), (2, 1, (.t 67)), (3, 1, (.t 70)), (4, 1, (.t 71)), (5, 1, (.t 74)), (6, 1, (.t 75)), (7, 1, (.t 78)), (8, 1, (.t 79)), (9, 1, (.t 82)), (10, 1, (.t 83)), (11, 1, (.t 86))]), o 88 (.call (cf fn_Pdump_dumper_line) [(.t 63), (.t 87)])]))))))
  (.reg [o 89 (.bin .add (.t 44) (ci 1)), o 44 (.mov (.t 89))]))))
def l2_Pdump_dumper_tokens : PC :=
  (.seq (.reg [o 31 (.bin .lss (.t 30) (.t 29))])
  (.seq (.cond (.t 31) .skip (.exit 2))
  (.seq (.block 3 (.seq (.reg [o 32 (.iaddrs 1 (.t 28) (.t 30)), o 33 (.load false 1 (.t 32)), o 7 (.mov (.t 33))])
    (.seq (.reg [o 35 (.mov (.t 7)), o 36 (.call (cf fn_handle_Handle_Slot) [(.t 35)]), o 34 (.mov (.t 36)), o 37 (.ext (.t 34) 0), o 38 (.ext (.t 34) 1), o 8 (.mov (.t 37)), o 9 (.mov (.t 38))])
    (.reg [o 39 (.mov (.t 4)), o 40 (.mov (.t 8)), o 41 (.mov (.t 7)), u (.mput .int (.t 39) (.t 40) (.t 41))]))))
  (.reg [o 42 (.bin .add (.t 30) (ci 1)), o 30 (.mov (.t 42))]))))
def l1_Pdump_dumper_tokens : PC :=
  (.seq (.reg [o 22 (.bin .lss (.t 21) (ci 8))])
  (.seq (.cond (.t 22) .skip (.exit 0))
  (.seq (.block 1 (.seq (.reg [o 23 (.mov (.t 21)), o 5 (.mov (.t 23))])
    (.seq (.reg [o 24 (.faddr 0 (.t 3)), o 25 (.faddr 608 (.t 24)), o 26 (.load true 176 (.t 25)), o 27 (.mov (.t 5)), o 28 (.call (cf fn_token_Tokens_Of) [(.t 26), (.t 27)]), o 29 (.len .sl (.t 28)), o 30 (.mov (ci 0))])
    (.block 2 (.loop l2_Pdump_dumper_tokens)))))
  (.reg [o 43 (.bin .add (.t 21) (ci 1)), o 21 (.mov (.t 43))]))))
def pf_Pdump_dumper_tokens : PF := ⟨116, [],
  (.seq (.reg [o 3 (.box (.t 1) none)])
  (.seq (.reg [o 20 .mkmap, o 4 (.mov (.t 20))])
  (.seq (.seq (.reg [o 21 (.mov (ci 0))])
  (.block 0 (.loop l1_Pdump_dumper_tokens)))
  (.seq (.seq (.reg [o 44 (.mov (ci 0))])
  (.block 4 (.loop l3_Pdump_dumper_tokens)))
  (.seq (.reg [o 15 (.mov (.c .nils))])
  (.seq (.seq (.reg [o 90 (.faddr 0 (.t 3)), o 91 (.faddr 608 (.t 90)), o 92 (.load true 176 (.t 91)), o 16 (.alloc z176_e02c none), u (.store 176 (.t 16) (.t 92))])
  (.block 6 (.loop l4_Pdump_dumper_tokens)))
  (.reg [o 108 (.mov (.t 0)), o 109 (.mki ty_string (.c (S [110, 101, 120, 116]))), o 110 (.mki ty_string (.c (S [116, 111, 107, 101, 110, 115]))), o 111 (.mov (.t 15)), o 112 (.call (cf fn_dump_list_handle_Handle) [(.t 111)]), o 113 (.mki ty_string (.t 112)), o 114 (.bslice [.nili] 3 [(0, 1, (.t 109)), (1, 1, (.t 110)), (2, 1, (.t 113))]), o 115 (.call (cf fn_Pdump_dumper_line) [(.t 108), (.t 114)])])))))))⟩

def l1_Pdump_dumper_line : PC :=
  (.seq (.reg [o 9 (.bin .lss (.t 8) (.t 7))])
  (.seq (.cond (.t 9) .skip (.exit 0))
  (.seq (.block 1 (.seq (.reg [o 10 (.mov (.t 8)), o 11 (.iaddrs 1 (.t 6) (.t 8)), o 12 (.load false 1 (.t 11)), o 4 (.mov (.t 10)), o 5 (.mov (.t 12))])
    (.seq (.seq (.reg [o 13 (.mov (.t 4)), o 14 (.bin .gtr (.t 13) (ci 0))])
    (.cond (.t 14) (.reg [o 15 (.mov (.t 0)), o 16 (.nilck (.t 15)), o 17 (.faddr 0 (.t 16)), o 18 (.call (cf fn_Pstrings_Builder_WriteByte) [(.t 17), (.c (.int .u8 32))])]) .skip))
    (.dreg [(o 19 (.mov (.t 0)), []), (o 20 (.nilck (.t 19)), []), (o 21 (.faddr 0 (.t 20)), []), (o 22 (.mov (.t 5)), []), (o 23 (.call (cf fn_dump_word) [(.t 22)]), []), (o 24 (.call (cf fn_Pstrings_Builder_WriteString) [(.t 21), (.t 23)]), [])]))))
  (.reg [o 25 (.bin .add (.t 8) (ci 1)), o 8 (.mov (.t 25))]))))
def pf_Pdump_dumper_line : PF := ⟨30, [],
  (.seq (.seq (.reg [o 6 (.mov (.t 1)), o 7 (.len .sl (.t 6)), o 8 (.mov (ci 0))])
  (.block 0 (.loop l1_Pdump_dumper_line)))
  (.reg [o 26 (.mov (.t 0)), o 27 (.nilck (.t 26)), o 28 (.faddr 0 (.t 27)), o 29 (.call (cf fn_Pstrings_Builder_WriteByte) [(.t 28), (.c (.int .u8 10))])]))⟩

def pf_mail_Box_Closed : PF := ⟨5, [.t 2],
  (.seq (.reg [o 1 (.box (.t 0) none), o 2 (.mov (.c (.bool false)))])
  (.seq (.reg [o 3 (.faddr 18 (.t 1)), o 4 (.load false 1 (.t 3)), o 2 (.mov (.t 4))])
  .ret))⟩

def l1_mail_Box_All : PC :=
  (.block 1 (.reg [o 8 (.load false 1 (.t 3)), o 9 (.load true 4 (.t 4)), o 10 (.bslice [(.int .u8 0), (.int .u64 0), (.int .u32 0), (.bool false)] 1 [(0, 4, (.t 9))]), o 11 (.append ty_mail_Message 4 24 (.t 8) (.t 10)), u (.store 1 (.t 3) (.t 11))]))
def pf_mail_Box_All : PF := ⟨14, [.t 2],
  (.seq (.reg [o 1 (.box (.t 0) none), o 2 (.mov (.c .nils))])
  (.seq (.reg [o 3 (.alloc [.nils] none)])
  (.seq (.seq (.reg [o 5 (.load true 19 (.t 1)), o 6 (.call (cf fn_mail_Box_each) [(.t 5)])])
  (.block 0 (.rfun (.t 6) [7] (.reg [o 4 (.alloc [(.int .u8 0), (.int .u64 0), (.int .u32 0), (.bool false)] none), u (.store 4 (.t 4) (.t 7))]) l1_mail_Box_All)))
  (.seq (.reg [o 12 (.load false 1 (.t 3)), o 13 (.call (cf fn_slices_Clip_mail_Message_mail_Message) [(.t 12)]), o 2 (.mov (.t 13))])
  .ret))))⟩

def pr_Pmodel_caller_calls_1 : PRec := ⟨4, ⟨17, [],
  (.seq (.reg [o 1 (.mov (.t 4))])
  (.seq (.reg [o 5 (.mov (.t 1)), o 6 (.ne .ifc (.t 5) (.c .nili))])
  (.cond (.t 6) (.seq (.reg [o 8 (.mov (.t 1)), o 9 (.ta (.int .i64 0) (.t 8) ty_api_Errno true), o 7 (.mov (.t 9)), o 10 (.ext (.t 7) 0), o 11 (.ext (.t 7) 1), o 2 (.mov (.t 10)), o 3 (.mov (.t 11))])
    (.seq (.seq (.reg [o 12 (.mov (.t 3)), o 13 (.un .not (.t 12))])
    (.cond (.t 13) (.reg [o 14 (.mov (.t 1)), u (.panic (.t 14))]) .skip))
    (.reg [o 15 (.mov (.t 2)), o 16 (.build [(.int .i64 0), (.int .u64 0), (.int .u32 0)] [(0, 1, (.t 15))]), u (.store 3 (.t 0) (.t 16))]))) .skip)))⟩⟩

def pf_model_ask : PF := ⟨8, [],
  (.seq (.reg [o 4 (.mov (.t 0)), o 5 (.un .not (.t 4))])
  (.cond (.t 5) (.reg [o 6 (.mov (.t 1)), o 7 (.mki ty_api_Errno (.t 6)), u (.panic (.t 7))]) .skip))⟩

def l1_strings_genSplit : PC :=
  (.seq (.seq (.reg [o 34 (.mov (.t 10)), o 35 (.mov (.t 3)), o 36 (.bin .lss (.t 34) (.t 35))])
  (.cond (.t 36) .skip (.exit 0)))
  (.block 1 (.seq (.reg [o 37 (.mov (.t 0)), o 38 (.mov (.t 1)), o 39 (.call (cf fn_strings_Index) [(.t 37), (.t 38)]), o 11 (.mov (.t 39))])
    (.seq (.seq (.reg [o 40 (.mov (.t 11)), o 41 (.bin .lss (.t 40) (ci 0))])
    (.cond (.t 41) (.exit 0) .skip))
    (.seq (.reg [o 42 (.mov (.t 9)), o 43 (.mov (.t 10)), o 44 (.mov (.t 0)), o 45 (.mov (.t 11)), o 46 (.mov (.t 2)), o 47 (.bin .add (.t 45) (.t 46)), o 48 (.slstr (.t 44) none (some (.t 47))), o 49 (.iaddrs 1 (.t 42) (.t 43)), u (.store 1 (.t 49) (.t 48))])
    (.seq (.reg [o 50 (.mov (.t 0)), o 51 (.mov (.t 11)), o 52 (.mov (.t 1)), o 53 (.len .str (.t 52)), o 54 (.bin .add (.t 51) (.t 53)), o 55 (.slstr (.t 50) (some (.t 54)) none), o 0 (.mov (.t 55))])
    (.reg [o 56 (.mov (.t 10)), o 57 (.bin .add (.t 56) (ci 1)), o 10 (.mov (.t 57))])))))))
def pf_strings_genSplit : PF := ⟨66, [.t 8],
  (.seq (.reg [o 8 (.mov (.c .nils))])
  (.seq (.seq (.reg [o 12 (.mov (.t 3)), o 13 (.eq .int (.t 12) (ci 0))])
  (.cond (.t 13) (.seq (.reg [o 8 (.mov (.c .nils))])
    .ret) .skip))
  (.seq (.seq (.reg [o 14 (.mov (.t 1)), o 15 (.eq .str (.t 14) (.c (S [])))])
  (.cond (.t 15) (.seq (.reg [o 16 (.mov (.t 0)), o 17 (.mov (.t 3)), o 18 (.call (cf fn_strings_explode) [(.t 16), (.t 17)]), o 8 (.mov (.t 18))])
    .ret) .skip))
  (.seq (.seq (.reg [o 19 (.mov (.t 3)), o 20 (.bin .lss (.t 19) (ci 0))])
  (.cond (.t 20) (.reg [o 21 (.mov (.t 0)), o 22 (.mov (.t 1)), o 23 (.call (cf fn_strings_Count) [(.t 21), (.t 22)]), o 24 (.bin .add (.t 23) (ci 1)), o 3 (.mov (.t 24))]) .skip))
  (.seq (.reg [o 25 (.mov (.t 3)), o 26 (.mov (.t 0)), o 27 (.len .str (.t 26)), o 28 (.bin .add (.t 27) (ci 1)), o 29 (.min [(.t 25), (.t 28)]), o 3 (.mov (.t 29))])
  (.seq (.reg [o 30 (.mov (.t 3)), o 31 (.mkslice ty_string [(S [])] 16 (.t 30) (.t 30)), o 9 (.mov (.t 31))])
  (.seq (.reg [o 32 (.mov (.t 3)), o 33 (.bin .sub (.t 32) (ci 1)), o 3 (.mov (.t 33))])
  (.seq (.reg [o 10 (.mov (ci 0))])
  (.seq (.block 0 (.loop l1_strings_genSplit))
  (.seq (.reg [o 58 (.mov (.t 9)), o 59 (.mov (.t 10)), o 60 (.mov (.t 0)), o 61 (.iaddrs 1 (.t 58) (.t 59)), u (.store 1 (.t 61) (.t 60))])
  (.seq (.reg [o 62 (.mov (.t 9)), o 63 (.mov (.t 10)), o 64 (.bin .add (.t 63) (ci 1)), o 65 (.slsl 1 (.t 62) none (some (.t 64)) none), o 8 (.mov (.t 65))])
  .ret)))))))))))⟩

def pf_istringslite_TrimSuffix : PF := ⟨16, [.t 4],
  (.seq (.reg [o 4 (.mov (.c (S [])))])
  (.seq (.seq (.reg [o 5 (.mov (.t 0)), o 6 (.mov (.t 1)), o 7 (.call (cf fn_istringslite_HasSuffix) [(.t 5), (.t 6)])])
  (.cond (.t 7) (.seq (.reg [o 8 (.mov (.t 0)), o 9 (.mov (.t 0)), o 10 (.len .str (.t 9)), o 11 (.mov (.t 1)), o 12 (.len .str (.t 11)), o 13 (.bin .sub (.t 10) (.t 12)), o 14 (.slstr (.t 8) none (some (.t 13))), o 4 (.mov (.t 14))])
    .ret) .skip))
  (.seq (.reg [o 15 (.mov (.t 0)), o 4 (.mov (.t 15))])
  .ret)))⟩

def pf_istringslite_Cut : PF := ⟨23, [.t 4, .t 5, .t 6],
  (.seq (.reg [o 4 (.mov (.c (S []))), o 5 (.mov (.c (S []))), o 6 (.mov (.c (.bool false)))])
  (.seq (.seq (.reg [o 8 (.mov (.t 0)), o 9 (.mov (.t 1)), o 10 (.call (cf fn_istringslite_Index) [(.t 8), (.t 9)]), o 7 (.mov (.t 10))])
  (.seq (.reg [o 11 (.mov (.t 7)), o 12 (.bin .geq (.t 11) (ci 0))])
  (.cond (.t 12) (.seq (.dreg [(o 13 (.mov (.t 0)), []), (o 14 (.mov (.t 7)), []), (o 15 (.slstr (.t 13) none (some (.t 14))), []), (o 16 (.mov (.t 0)), []), (o 17 (.mov (.t 7)), []), (o 18 (.mov (.t 1)), []), (o 19 (.len .str (.t 18)), []), (o 20 (.bin .add (.t 17) (.t 19)), []), (o 21 (.slstr (.t 16) (some (.t 20)) none), []), (o 4 (.mov (.t 15)), []), (o 5 (.mov (.t 21)), []), (o 6 (.mov (.c (.bool true))), [])])
    .ret) .skip)))
  (.seq (.reg [o 22 (.mov (.t 0)), o 4 (.mov (.t 22)), o 5 (.mov (.c (S []))), o 6 (.mov (.c (.bool false)))])
  .ret)))⟩

def pf_table_book_All : PF := ⟨6, [.t 2],
  (.seq (.reg [o 1 (.box (.t 0) none), o 2 (.mov (.c .nils))])
  (.seq (.reg [o 3 (.faddr 0 (.t 1)), o 4 (.load true 96 (.t 3)), o 5 (.call (cf fn_handle_Book_Issued) [(.t 4)]), o 2 (.mov (.t 5))])
  .ret))⟩

def pf_table_Table_Get : PF := ⟨30, [.cell 4 true 12, .t 5],
  (.seq (.reg [o 2 (.box (.t 0) none), o 4 (.alloc [(.int .u32 0), (.int .i64 0), .nils, (.int .i64 0), (.int .u32 0), (.int .u32 0), (.int .u32 0), (.int .u32 0), (.int .u32 0), (.int .u32 0), (.int .u32 0), (.int .u32 0)] none), o 5 (.mov (ci 0))])
  (.seq (.seq (.reg [o 9 (.faddr 0 (.t 2)), o 10 (.faddr 0 (.t 9)), o 11 (.load true 96 (.t 10)), o 12 (.mov (.t 1)), o 13 (.call (cf fn_handle_Book_Good) [(.t 11), (.t 12)]), o 14 (.un .not (.t 13))])
  (.cond (.t 14) (.seq (.reg [o 15 (.build [(.int .u32 0), (.int .i64 0), .nils, (.int .i64 0), (.int .u32 0), (.int .u32 0), (.int .u32 0), (.int .u32 0), (.int .u32 0), (.int .u32 0), (.int .u32 0), (.int .u32 0)] []), u (.store 12 (.t 4) (.t 15)), o 5 (.mov (ci 4))])
    .ret) .skip))
  (.seq (.reg [o 17 (.mov (.t 1)), o 18 (.call (cf fn_handle_Handle_Slot) [(.t 17)]), o 16 (.mov (.t 18)), o 19 (.ext (.t 16) 0), o 20 (.ext (.t 16) 1), o 6 (.mov (.t 19)), o 7 (.mov (.t 20))])
  (.seq (.reg [o 21 (.mov (.t 6)), o 22 (.faddr 96 (.t 2)), o 23 (.iaddra 32 12 (.t 22) (.t 21)), o 24 (.load true 12 (.t 23)), o 8 (.alloc [(.int .u32 0), (.int .i64 0), .nils, (.int .i64 0), (.int .u32 0), (.int .u32 0), (.int .u32 0), (.int .u32 0), (.int .u32 0), (.int .u32 0), (.int .u32 0), (.int .u32 0)] none), u (.store 12 (.t 8) (.t 24))])
  (.seq (.reg [o 25 (.load true 480 (.t 2)), o 26 (.mov (.t 1)), o 27 (.call (cf fn_table_Table_up) [(.t 25), (.t 26)]), o 28 (.faddr 0 (.t 8)), u (.store 1 (.t 28) (.t 27))])
  (.seq (.reg [o 29 (.load true 12 (.t 8)), u (.store 12 (.t 4) (.t 29)), o 5 (.mov (ci 0))])
  .ret))))))⟩

def pf_own_Owns_Of : PF := ⟨35, [.cell 6 true 3],
  (.seq (.reg [o 3 (.box (.t 0) none), o 4 (.box (.t 1) none), o 6 (.alloc [(.int .u8 0), (.int .u8 0), (.int .u8 0)] none)])
  (.seq (.reg [o 10 (.load true 480 (.t 4)), o 11 (.mov (.t 2)), o 12 (.call (cf fn_forest_Root) [(.t 10), (.t 11)]), o 7 (.mov (.t 12))])
  (.seq (.reg [o 14 (.mov (.t 7)), o 15 (.call (cf fn_handle_Handle_Slot) [(.t 14)]), o 13 (.mov (.t 15)), o 16 (.ext (.t 13) 0), o 17 (.ext (.t 13) 1), o 8 (.mov (.t 16)), o 9 (.mov (.t 17))])
  (.seq (.seq (.reg [o 18 (.mov (.t 9)), o 19 (.un .not (.t 18)), o 20 (.mov (.t 19)), gf 20 (some 21) (.mov (.t 8)), gf 20 (some 22) (.faddr 0 (.t 3)), gf 20 (some 23) (.iaddra 32 4 (.t 22) (.t 21)), gf 20 (some 24) (.faddr 0 (.t 23)), gf 20 (some 25) (.load false 1 (.t 24)), gf 20 (some 26) (.mov (.t 7)), gf 20 (some 27) (.ne .int (.t 25) (.t 26)), o 28 (.pick (.t 20) (.c (.bool true)) (.t 27))])
  (.cond (.t 28) (.seq (.reg [o 29 (.build [(.int .u8 0), (.int .u8 0), (.int .u8 0)] []), u (.store 3 (.t 6) (.t 29))])
    .ret) .skip))
  (.seq (.reg [o 30 (.mov (.t 8)), o 31 (.faddr 0 (.t 3)), o 32 (.iaddra 32 4 (.t 31) (.t 30)), o 33 (.faddr 1 (.t 32)), o 34 (.load true 3 (.t 33)), u (.store 3 (.t 6) (.t 34))])
  .ret)))))⟩

def l1_dump_list_runs_Run : PC :=
  (.seq (.reg [o 9 (.bin .lss (.t 8) (.t 7))])
  (.seq (.cond (.t 9) .skip (.exit 0))
  (.seq (.block 1 (.seq (.reg [o 10 (.iaddrs 2 (.t 6) (.t 8)), o 11 (.load true 2 (.t 10)), o 5 (.alloc [(.int .i64 0), (.int .i64 0)] none), u (.store 2 (.t 5) (.t 11))])
    (.reg [o 12 (.mov (.t 3)), o 13 (.load true 2 (.t 5)), o 14 (.mki ty_runs_Run (.t 13)), o 15 (.call (cf fn_dump_word) [(.t 14)]), o 16 (.bslice [(S [])] 1 [(0, 1, (.t 15))]), o 17 (.append ty_string 1 16 (.t 12) (.t 16)), o 3 (.mov (.t 17))])))
  (.reg [o 18 (.bin .add (.t 8) (ci 1)), o 8 (.mov (.t 18))]))))
def pf_dump_list_runs_Run : PF := ⟨24, [.t 2],
  (.seq (.reg [o 2 (.mov (.c (S [])))])
  (.seq (.reg [o 3 (.mov (.c .nils))])
  (.seq (.seq (.reg [o 6 (.mov (.t 0)), o 7 (.len .sl (.t 6)), o 8 (.mov (ci 0))])
  (.block 0 (.loop l1_dump_list_runs_Run)))
  (.seq (.seq (.reg [o 19 (.mov (.t 3)), o 20 (.len .sl (.t 19)), o 21 (.eq .int (.t 20) (ci 0))])
  (.cond (.t 21) (.seq (.reg [o 2 (.mov (.c (S [45])))])
    .ret) .skip))
  (.seq (.reg [o 22 (.mov (.t 3)), o 23 (.call (cf fn_strings_Join) [(.t 22), (.c (S [44]))]), o 2 (.mov (.t 23))])
  .ret)))))⟩

def l1_dump_list_handle_Handle : PC :=
  (.seq (.reg [o 9 (.bin .lss (.t 8) (.t 7))])
  (.seq (.cond (.t 9) .skip (.exit 0))
  (.seq (.block 1 (.seq (.reg [o 10 (.iaddrs 1 (.t 6) (.t 8)), o 11 (.load false 1 (.t 10)), o 5 (.mov (.t 11))])
    (.reg [o 12 (.mov (.t 3)), o 13 (.mov (.t 5)), o 14 (.mki ty_handle_Handle (.t 13)), o 15 (.call (cf fn_dump_word) [(.t 14)]), o 16 (.bslice [(S [])] 1 [(0, 1, (.t 15))]), o 17 (.append ty_string 1 16 (.t 12) (.t 16)), o 3 (.mov (.t 17))])))
  (.reg [o 18 (.bin .add (.t 8) (ci 1)), o 8 (.mov (.t 18))]))))
def pf_dump_list_handle_Handle : PF := ⟨24, [.t 2],
  (.seq (.reg [o 2 (.mov (.c (S [])))])
  (.seq (.reg [o 3 (.mov (.c .nils))])
  (.seq (.seq (.reg [o 6 (.mov (.t 0)), o 7 (.len .sl (.t 6)), o 8 (.mov (ci 0))])
  (.block 0 (.loop l1_dump_list_handle_Handle)))
  (.seq (.seq (.reg [o 19 (.mov (.t 3)), o 20 (.len .sl (.t 19)), o 21 (.eq .int (.t 20) (ci 0))])
  (.cond (.t 21) (.seq (.reg [o 2 (.mov (.c (S [45])))])
    .ret) .skip))
  (.seq (.reg [o 22 (.mov (.t 3)), o 23 (.call (cf fn_strings_Join) [(.t 22), (.c (S [44]))]), o 2 (.mov (.t 23))])
  .ret)))))⟩

def pf_table_Table_New : PF := ⟨58, [.cell 6 true 480, .t 7, .t 8],
  (.seq (.reg [o 3 (.box (.t 0) none), o 6 (.alloc z480_3a0d none), o 7 (.mov (.c (.int .u32 0))), o 8 (.mov (ci 0))])
  (.seq (.block 0 (.seq (.reg [o 15 (.mov (.t 1)), o 16 (.ne .int (.t 15) (.c (.int .u32 0))), o 17 (.mov (.t 16)), gt 17 (some 18) (.faddr 0 (.t 3)), gt 17 (some 19) (.faddr 0 (.t 18)), gt 17 (some 20) (.load true 96 (.t 19)), gt 17 (some 21) (.mov (.t 1)), gt 17 (some 22) (.call (cf fn_handle_Book_Good) [(.t 20), (.t 21)]), gt 17 (some 23) (.un .not (.t 22)), o 24 (.pick (.t 17) (.t 23) (.c (.bool false))), o 14 (.mov (.t 24))])
    (.cond (.t 14) (.seq (.reg [o 25 (.load true 480 (.t 3)), u (.store 480 (.t 6) (.t 25)), o 7 (.mov (.c (.int .u32 0))), o 8 (.mov (ci 4))])
      .ret) (.seq (.reg [o 27 (.mov (.t 2)), o 28 (.call (cf fn_table_quota) [(.t 27)]), o 29 (.un .not (.t 28)), o 26 (.mov (.t 29))])
      (.cond (.t 26) (.seq (.reg [o 30 (.load true 480 (.t 3)), u (.store 480 (.t 6) (.t 30)), o 7 (.mov (.c (.int .u32 0))), o 8 (.mov (ci 2))])
        .ret) .skip)))))
  (.seq (.reg [o 32 (.faddr 0 (.t 3)), o 33 (.faddr 0 (.t 32)), o 34 (.load true 96 (.t 33)), o 35 (.call (cf fn_handle_Book_Issue) [(.t 34)]), o 31 (.mov (.t 35)), o 36 (.ext (.t 31) 0), o 37 (.ext (.t 31) 1), o 38 (.ext (.t 31) 2), o 9 (.alloc z96_9863 none), u (.store 96 (.t 9) (.t 36)), o 10 (.mov (.t 37)), o 11 (.mov (.t 38))])
  (.seq (.seq (.reg [o 39 (.mov (.t 11)), o 40 (.un .not (.t 39))])
  (.cond (.t 40) (.seq (.reg [o 41 (.load true 480 (.t 3)), u (.store 480 (.t 6) (.t 41)), o 7 (.mov (.c (.int .u32 0))), o 8 (.mov (ci 7))])
    .ret) .skip))
  (.seq (.reg [o 42 (.load true 96 (.t 9)), o 43 (.faddr 0 (.t 3)), o 44 (.faddr 0 (.t 43)), u (.store 96 (.t 44) (.t 42))])
  (.seq (.reg [o 46 (.mov (.t 10)), o 47 (.call (cf fn_handle_Handle_Slot) [(.t 46)]), o 45 (.mov (.t 47)), o 48 (.ext (.t 45) 0), o 49 (.ext (.t 45) 1), o 12 (.mov (.t 48)), o 13 (.mov (.t 49))])
  (.seq (.reg [o 50 (.mov (.t 12)), o 51 (.mov (.t 1)), o 52 (.mov (.t 2)), o 53 (.build [(.int .u32 0), (.int .i64 0), .nils, (.int .i64 0), (.int .u32 0), (.int .u32 0), (.int .u32 0), (.int .u32 0), (.int .u32 0), (.int .u32 0), (.int .u32 0), (.int .u32 0)] [(0, 1, (.t 51)), (1, 1, (.t 52))]), o 54 (.faddr 96 (.t 3)), o 55 (.iaddra 32 12 (.t 54) (.t 50)), u (.store 12 (.t 55) (.t 53))])
  (.seq (.reg [o 56 (.load true 480 (.t 3)), o 57 (.mov (.t 10)), u (.store 480 (.t 6) (.t 56)), o 7 (.mov (.t 57)), o 8 (.mov (ci 0))])
  .ret))))))))⟩

def pf_token_Tokens_Of : PF := ⟨8, [.t 4],
  (.seq (.reg [o 2 (.box (.t 0) none), o 3 (.box (.t 1) none), o 4 (.mov (.c .nils))])
  (.seq (.reg [o 5 (.load true 176 (.t 2)), o 6 (.mkf (.func fn_token_Tokens_Of_1) [] [(.t 3)]), o 7 (.call (cf fn_token_Tokens_those) [(.t 5), (.t 6)]), o 4 (.mov (.t 7))])
  .ret))⟩

def pf_handle_Handle_Slot : PF := ⟨21, [.t 2, .t 3],
  (.seq (.reg [o 2 (.mov (ci 0)), o 3 (.mov (.c (.bool false)))])
  (.seq (.reg [o 5 (.mov (.t 0)), o 6 (.bin .and (.t 5) (.c (.int .u32 255))), o 7 (.conv .i64 (.t 6)), o 8 (.bin .sub (.t 7) (ci 1)), o 4 (.mov (.t 8))])
  (.seq (.seq (.reg [o 9 (.mov (.t 4)), o 10 (.bin .lss (.t 9) (ci 0)), o 11 (.mov (.t 10)), gf 11 (some 12) (.mov (.t 4)), gf 11 (some 13) (.bin .geq (.t 12) (ci 32)), o 14 (.pick (.t 11) (.c (.bool true)) (.t 13)), o 15 (.mov (.t 14)), gf 15 (some 16) (.mov (.t 0)), gf 15 (some 17) (.shf .shr (.t 16) (.c (.int .u64 8))), gf 15 (some 18) (.bin .gtr (.t 17) (.c (.int .u32 8388607))), o 19 (.pick (.t 15) (.c (.bool true)) (.t 18))])
  (.cond (.t 19) (.seq (.reg [o 2 (.mov (ci 0)), o 3 (.mov (.c (.bool false)))])
    .ret) .skip))
  (.seq (.reg [o 20 (.mov (.t 4)), o 2 (.mov (.t 20)), o 3 (.mov (.c (.bool true)))])
  .ret))))⟩

def pf_token_Tokens_Get : PF := ⟨23, [.cell 4 true 5, .t 5],
  (.seq (.reg [o 2 (.box (.t 0) none), o 4 (.alloc [(.int .u32 0), (.int .u8 0), (.int .u8 0), (.bool false), (.int .u32 0)] none), o 5 (.mov (ci 0))])
  (.seq (.seq (.reg [o 8 (.faddr 0 (.t 2)), o 9 (.load true 96 (.t 8)), o 10 (.mov (.t 1)), o 11 (.call (cf fn_handle_Book_Good) [(.t 9), (.t 10)]), o 12 (.un .not (.t 11))])
  (.cond (.t 12) (.seq (.reg [o 13 (.build [(.int .u32 0), (.int .u8 0), (.int .u8 0), (.bool false), (.int .u32 0)] []), u (.store 5 (.t 4) (.t 13)), o 5 (.mov (ci 4))])
    .ret) .skip))
  (.seq (.reg [o 15 (.mov (.t 1)), o 16 (.call (cf fn_handle_Handle_Slot) [(.t 15)]), o 14 (.mov (.t 16)), o 17 (.ext (.t 14) 0), o 18 (.ext (.t 14) 1), o 6 (.mov (.t 17)), o 7 (.mov (.t 18))])
  (.seq (.reg [o 19 (.mov (.t 6)), o 20 (.faddr 96 (.t 2)), o 21 (.iaddra 16 5 (.t 20) (.t 19)), o 22 (.load true 5 (.t 21)), u (.store 5 (.t 4) (.t 22)), o 5 (.mov (ci 0))])
  .ret))))⟩

def pf_token_Tokens_Lend : PF := ⟨47, [.cell 4 true 176, .t 5, .t 6],
  (.seq (.reg [o 2 (.box (.t 0) none), o 3 (.box (.t 1) none), o 4 (.alloc z176_e02c none), o 5 (.mov (.c (.int .u32 0))), o 6 (.mov (ci 0))])
  (.seq (.seq (.reg [o 13 (.load true 176 (.t 2)), o 14 (.load true 5 (.t 3)), o 15 (.call (cf fn_token_Tokens_may) [(.t 13), (.t 14)]), o 7 (.mov (.t 15))])
  (.seq (.reg [o 16 (.mov (.t 7)), o 17 (.ne .int (.t 16) (ci 0))])
  (.cond (.t 17) (.seq (.reg [o 18 (.load true 176 (.t 2)), o 19 (.mov (.t 7)), u (.store 176 (.t 4) (.t 18)), o 5 (.mov (.c (.int .u32 0))), o 6 (.mov (.t 19))])
    .ret) .skip)))
  (.seq (.reg [o 21 (.faddr 0 (.t 2)), o 22 (.load true 96 (.t 21)), o 23 (.call (cf fn_handle_Book_Issue) [(.t 22)]), o 20 (.mov (.t 23)), o 24 (.ext (.t 20) 0), o 25 (.ext (.t 20) 1), o 26 (.ext (.t 20) 2), o 8 (.alloc z96_9863 none), u (.store 96 (.t 8) (.t 24)), o 9 (.mov (.t 25)), o 10 (.mov (.t 26))])
  (.seq (.reg [o 28 (.mov (.t 9)), o 29 (.call (cf fn_handle_Handle_Slot) [(.t 28)]), o 27 (.mov (.t 29)), o 30 (.ext (.t 27) 0), o 31 (.ext (.t 27) 1), o 11 (.mov (.t 30)), o 12 (.mov (.t 31))])
  (.seq (.seq (.reg [o 32 (.mov (.t 12)), o 33 (.un .not (.t 32)), o 34 (.mov (.t 33)), gf 34 (some 35) (.mov (.t 11)), gf 34 (some 36) (.bin .geq (.t 35) (ci 16)), o 37 (.pick (.t 34) (.c (.bool true)) (.t 36))])
  (.cond (.t 37) (.seq (.reg [o 38 (.load true 176 (.t 2)), u (.store 176 (.t 4) (.t 38)), o 5 (.mov (.c (.int .u32 0))), o 6 (.mov (ci 7))])
    .ret) .skip))
  (.seq (.dreg [(o 39 (.mov (.t 11)), []), (o 40 (.load true 96 (.t 8)), []), (o 41 (.load true 5 (.t 3)), [1]), (o 42 (.faddr 0 (.t 2)), []), (u (.store 96 (.t 42) (.t 40)), [2]), (o 43 (.faddr 96 (.t 2)), []), (o 44 (.iaddra 16 5 (.t 43) (.t 39)), []), (u (.store 5 (.t 44) (.t 41)), [])])
  (.seq (.reg [o 45 (.load true 176 (.t 2)), o 46 (.mov (.t 9)), u (.store 176 (.t 4) (.t 45)), o 5 (.mov (.t 46)), o 6 (.mov (ci 0))])
  .ret)))))))⟩

def pf_Pstrings_Builder_WriteByte : PF := ⟨17, [.t 4],
  (.seq (.reg [o 4 (.mov (.c .nili))])
  (.seq (.reg [o 5 (.mov (.t 0)), o 6 (.call (cf fn_Pstrings_Builder_copyCheck) [(.t 5)])])
  (.seq (.reg [o 7 (.mov (.t 0)), o 8 (.mov (.t 0)), o 9 (.nilck (.t 8)), o 10 (.faddr 1 (.t 9)), o 11 (.load false 1 (.t 10)), o 12 (.mov (.t 1)), o 13 (.bslice [(.int .u8 0)] 1 [(0, 1, (.t 12))]), o 14 (.append ty_uint8 1 1 (.t 11) (.t 13)), o 15 (.nilck (.t 7)), o 16 (.faddr 1 (.t 15)), u (.store 1 (.t 16) (.t 14))])
  (.seq (.reg [o 4 (.mov (.c .nili))])
  .ret))))⟩

def pf_Pstrings_Builder_WriteString : PF := ⟨19, [.t 4, .t 5],
  (.seq (.reg [o 4 (.mov (ci 0)), o 5 (.mov (.c .nili))])
  (.seq (.reg [o 6 (.mov (.t 0)), o 7 (.call (cf fn_Pstrings_Builder_copyCheck) [(.t 6)])])
  (.seq (.reg [o 8 (.mov (.t 0)), o 9 (.mov (.t 0)), o 10 (.nilck (.t 9)), o 11 (.faddr 1 (.t 10)), o 12 (.load false 1 (.t 11)), o 13 (.mov (.t 1)), o 14 (.appends ty_uint8 (.t 12) (.t 13)), o 15 (.nilck (.t 8)), o 16 (.faddr 1 (.t 15)), u (.store 1 (.t 16) (.t 14))])
  (.seq (.reg [o 17 (.mov (.t 1)), o 18 (.len .str (.t 17)), o 4 (.mov (.t 18)), o 5 (.mov (.c .nili))])
  .ret))))⟩

def pf_dump_word : PF := ⟨61, [.t 2],
  (.seq (.reg [o 2 (.mov (.c (S [])))])
  (.seq (.seq (.reg [o 11 (.mov (.t 0))])
  (.block 0 (.seq (.reg [o 12 (.ta (S []) (.t 11) ty_string true), o 13 (.ext (.t 12) 1), o 14 (.ext (.t 12) 0)])
    (.cond (.t 13) (.seq (.reg [o 3 (.mov (.t 14))])
      (.seq (.reg [o 15 (.mov (.t 3)), o 2 (.mov (.t 15))])
      .ret)) (.seq (.reg [o 16 (.ta (.int .i64 0) (.t 11) ty_int true), o 17 (.ext (.t 16) 1), o 18 (.ext (.t 16) 0)])
      (.cond (.t 17) (.seq (.reg [o 4 (.mov (.t 18))])
        (.seq (.reg [o 19 (.mov (.t 4)), o 20 (.call (cf fn_strconv_Itoa) [(.t 19)]), o 2 (.mov (.t 20))])
        .ret)) (.seq (.reg [o 21 (.ta (.int .u8 0) (.t 11) ty_uint8 true), o 22 (.ext (.t 21) 1), o 23 (.ext (.t 21) 0)])
        (.cond (.t 22) (.seq (.reg [o 5 (.mov (.t 23))])
          (.seq (.reg [o 24 (.mov (.t 5)), o 25 (.conv .i64 (.t 24)), o 26 (.call (cf fn_strconv_Itoa) [(.t 25)]), o 2 (.mov (.t 26))])
          .ret)) (.seq (.reg [o 27 (.ta (.int .u32 0) (.t 11) ty_uint32 true), o 28 (.ext (.t 27) 1), o 29 (.ext (.t 27) 0)])
          (.cond (.t 28) (.seq (.reg [o 6 (.mov (.t 29))])
            (.seq (.reg [o 30 (.mov (.t 6)), o 31 (.conv .u64 (.t 30)), o 32 (.call (cf fn_strconv_FormatUint) [(.t 31), (ci 10)]), o 2 (.mov (.t 32))])
            .ret)) (.seq (.reg [o 33 (.ta (.int .u64 0) (.t 11) ty_uint64 true), o 34 (.ext (.t 33) 1), o 35 (.ext (.t 33) 0)])
            (.cond (.t 34) (.seq (.reg [o 7 (.mov (.t 35))])
              (.seq (.reg [o 36 (.mov (.t 7)), o 37 (.call (cf fn_strconv_FormatUint) [(.t 36), (ci 10)]), o 2 (.mov (.t 37))])
              .ret)) (.seq (.reg [o 38 (.ta (.int .u32 0) (.t 11) ty_handle_Handle true), o 39 (.ext (.t 38) 1), o 40 (.ext (.t 38) 0)])
              (.cond (.t 39) (.seq (.reg [o 8 (.mov (.t 40))])
                (.seq (.reg [o 41 (.mov (.t 8)), o 42 (.conv .u64 (.t 41)), o 43 (.call (cf fn_strconv_FormatUint) [(.t 42), (ci 10)]), o 2 (.mov (.t 43))])
                .ret)) (.seq (.reg [o 44 (.ta (.bool false) (.t 11) ty_bool true), o 45 (.ext (.t 44) 1), o 46 (.ext (.t 44) 0)])
                (.cond (.t 45) (.seq (.reg [o 9 (.mov (.t 46))])
                  (.seq (.seq (.reg [o 47 (.mov (.t 9))])
                  (.cond (.t 47) (.seq (.reg [o 2 (.mov (.c (S [121, 101, 115])))])
                    .ret) .skip))
                  (.seq (.reg [o 2 (.mov (.c (S [110, 111])))])
                  .ret))) (.seq (.reg [o 48 (.ta (.agg [(.int .i64 0), (.int .i64 0)]) (.t 11) ty_runs_Run true), o 49 (.ext (.t 48) 1), o 50 (.ext (.t 48) 0)])
                  (.cond (.t 49) (.seq (.reg [o 10 (.alloc [(.int .i64 0), (.int .i64 0)] none), u (.store 2 (.t 10) (.t 50))])
                    (.seq (.dreg [(o 51 (.faddr 0 (.t 10)), []), (o 52 (.load false 1 (.t 51)), []), (o 53 (.mki ty_int (.t 52)), []), (o 54 (.call (cf fn_dump_word) [(.t 53)]), []), (o 55 (.bin .add (.t 54) (.c (S [43]))), []), (o 56 (.faddr 1 (.t 10)), []), (o 57 (.load false 1 (.t 56)), [1, 3]), (o 58 (.mki ty_int (.t 57)), []), (o 59 (.call (cf fn_dump_word) [(.t 58)]), []), (o 60 (.bin .add (.t 55) (.t 59)), []), (o 2 (.mov (.t 60)), [])])
                    .ret)) .skip))))))))))))))))))
  (.seq (.reg [o 2 (.mov (.c (S [])))])
  .ret)))⟩

def pf_mail_Box_each : PF := ⟨4, [.t 2],
  (.seq (.reg [o 1 (.box (.t 0) none), o 2 (.mov (.c .nilf))])
  (.seq (.reg [o 3 (.mkf (.func fn_mail_Box_each_1) [] [(.t 1)]), o 2 (.mov (.t 3))])
  .ret))⟩

def pf_slices_Clip_mail_Message_mail_Message : PF := ⟨9, [.t 2],
  (.seq (.reg [o 2 (.mov (.c .nils))])
  (.seq (.reg [o 3 (.mov (.t 0)), o 4 (.mov (.t 0)), o 5 (.len .sl (.t 4)), o 6 (.mov (.t 0)), o 7 (.len .sl (.t 6)), o 8 (.slsl 4 (.t 3) none (some (.t 5)) (some (.t 7))), o 2 (.mov (.t 8))])
  .ret))⟩

def l1_strings_explode : PC :=
  (.seq (.seq (.reg [o 22 (.mov (.t 7)), o 23 (.mov (.t 1)), o 24 (.bin .sub (.t 23) (ci 1)), o 25 (.bin .lss (.t 22) (.t 24))])
  (.cond (.t 25) .skip (.exit 0)))
  (.seq (.block 1 (.seq (.reg [o 29 (.mov (.t 0)), o 30 (.call (cf fn_unicode_utf8_DecodeRuneInString) [(.t 29)]), o 28 (.mov (.t 30)), o 31 (.ext (.t 28) 0), o 32 (.ext (.t 28) 1), o 8 (.mov (.t 31)), o 9 (.mov (.t 32))])
    (.seq (.reg [o 33 (.mov (.t 6)), o 34 (.mov (.t 7)), o 35 (.mov (.t 0)), o 36 (.mov (.t 9)), o 37 (.slstr (.t 35) none (some (.t 36))), o 38 (.iaddrs 1 (.t 33) (.t 34)), u (.store 1 (.t 38) (.t 37))])
    (.reg [o 39 (.mov (.t 0)), o 40 (.mov (.t 9)), o 41 (.slstr (.t 39) (some (.t 40)) none), o 0 (.mov (.t 41))]))))
  (.reg [o 26 (.mov (.t 7)), o 27 (.bin .add (.t 26) (ci 1)), o 7 (.mov (.t 27))])))
def pf_strings_explode : PF := ⟨50, [.t 4],
  (.seq (.reg [o 4 (.mov (.c .nils))])
  (.seq (.reg [o 10 (.mov (.t 0)), o 11 (.call (cf fn_unicode_utf8_RuneCountInString) [(.t 10)]), o 5 (.mov (.t 11))])
  (.seq (.seq (.reg [o 12 (.mov (.t 1)), o 13 (.bin .lss (.t 12) (ci 0)), o 14 (.mov (.t 13)), gf 14 (some 15) (.mov (.t 1)), gf 14 (some 16) (.mov (.t 5)), gf 14 (some 17) (.bin .gtr (.t 15) (.t 16)), o 18 (.pick (.t 14) (.c (.bool true)) (.t 17))])
  (.cond (.t 18) (.reg [o 19 (.mov (.t 5)), o 1 (.mov (.t 19))]) .skip))
  (.seq (.reg [o 20 (.mov (.t 1)), o 21 (.mkslice ty_string [(S [])] 16 (.t 20) (.t 20)), o 6 (.mov (.t 21))])
  (.seq (.seq (.reg [o 7 (.mov (ci 0))])
  (.block 0 (.loop l1_strings_explode)))
  (.seq (.seq (.reg [o 42 (.mov (.t 1)), o 43 (.bin .gtr (.t 42) (ci 0))])
  (.cond (.t 43) (.reg [o 44 (.mov (.t 6)), o 45 (.mov (.t 1)), o 46 (.bin .sub (.t 45) (ci 1)), o 47 (.mov (.t 0)), o 48 (.iaddrs 1 (.t 44) (.t 46)), u (.store 1 (.t 48) (.t 47))]) .skip))
  (.seq (.reg [o 49 (.mov (.t 6)), o 4 (.mov (.t 49))])
  .ret)))))))⟩

def l1_strings_Count : PC :=
  (.block 1 (.seq (.reg [o 20 (.mov (.t 0)), o 21 (.mov (.t 1)), o 22 (.call (cf fn_strings_Index) [(.t 20), (.t 21)]), o 6 (.mov (.t 22))])
    (.seq (.seq (.reg [o 23 (.mov (.t 6)), o 24 (.eq .int (.t 23) (ci (-1)))])
    (.cond (.t 24) (.seq (.reg [o 25 (.mov (.t 5)), o 4 (.mov (.t 25))])
      .ret) .skip))
    (.seq (.reg [o 26 (.mov (.t 5)), o 27 (.bin .add (.t 26) (ci 1)), o 5 (.mov (.t 27))])
    (.reg [o 28 (.mov (.t 0)), o 29 (.mov (.t 6)), o 30 (.mov (.t 1)), o 31 (.len .str (.t 30)), o 32 (.bin .add (.t 29) (.t 31)), o 33 (.slstr (.t 28) (some (.t 32)) none), o 0 (.mov (.t 33))])))))
def pf_strings_Count : PF := ⟨34, [.t 4],
  (.seq (.reg [o 4 (.mov (ci 0))])
  (.seq (.seq (.reg [o 7 (.mov (.t 1)), o 8 (.len .str (.t 7)), o 9 (.eq .int (.t 8) (ci 0))])
  (.cond (.t 9) (.seq (.reg [o 10 (.mov (.t 0)), o 11 (.call (cf fn_unicode_utf8_RuneCountInString) [(.t 10)]), o 12 (.bin .add (.t 11) (ci 1)), o 4 (.mov (.t 12))])
    .ret) .skip))
  (.seq (.seq (.reg [o 13 (.mov (.t 1)), o 14 (.len .str (.t 13)), o 15 (.eq .int (.t 14) (ci 1))])
  (.cond (.t 15) (.seq (.reg [o 16 (.mov (.t 0)), o 17 (.mov (.t 1)), o 18 (.idxs (.t 17) (ci 0)), o 19 (.call (cf fn_ibytealg_CountString) [(.t 16), (.t 18)]), o 4 (.mov (.t 19))])
    .ret) .skip))
  (.seq (.reg [o 5 (.mov (ci 0))])
  (.block 0 (.loop l1_strings_Count))))))⟩

def pf_strings_Index : PF := ⟨8, [.t 4],
  (.seq (.reg [o 4 (.mov (ci 0))])
  (.seq (.reg [o 5 (.mov (.t 0)), o 6 (.mov (.t 1)), o 7 (.call (cf fn_istringslite_Index) [(.t 5), (.t 6)]), o 4 (.mov (.t 7))])
  .ret))⟩

def pf_istringslite_HasSuffix : PF := ⟨21, [.t 4],
  (.seq (.reg [o 4 (.mov (.c (.bool false)))])
  (.seq (.reg [o 5 (.mov (.t 0)), o 6 (.len .str (.t 5)), o 7 (.mov (.t 1)), o 8 (.len .str (.t 7)), o 9 (.bin .geq (.t 6) (.t 8)), o 10 (.mov (.t 9)), gt 10 (some 11) (.mov (.t 0)), gt 10 (some 12) (.mov (.t 0)), gt 10 (some 13) (.len .str (.t 12)), gt 10 (some 14) (.mov (.t 1)), gt 10 (some 15) (.len .str (.t 14)), gt 10 (some 16) (.bin .sub (.t 13) (.t 15)), gt 10 (some 17) (.slstr (.t 11) (some (.t 16)) none), gt 10 (some 18) (.mov (.t 1)), gt 10 (some 19) (.eq .str (.t 17) (.t 18)), o 20 (.pick (.t 10) (.t 19) (.c (.bool false))), o 4 (.mov (.t 20))])
  .ret))⟩

def l1_istringslite_Index : PC :=
  (.seq (.seq (.reg [o 57 (.mov (.t 8)), o 58 (.mov (.t 9)), o 59 (.bin .lss (.t 57) (.t 58))])
  (.cond (.t 59) .skip (.exit 1)))
  (.block 2 (.seq (.seq (.reg [o 60 (.mov (.t 0)), o 61 (.mov (.t 8)), o 62 (.idxs (.t 60) (.t 61)), o 63 (.mov (.t 6)), o 64 (.ne .int (.t 62) (.t 63))])
    (.cond (.t 64) (.seq (.reg [o 65 (.mov (.t 0)), o 66 (.mov (.t 8)), o 67 (.bin .add (.t 66) (ci 1)), o 68 (.mov (.t 9)), o 69 (.slstr (.t 65) (some (.t 67)) (some (.t 68))), o 70 (.mov (.t 6)), o 71 (.call (cf fn_istringslite_IndexByte) [(.t 69), (.t 70)]), o 11 (.mov (.t 71))])
      (.seq (.seq (.reg [o 72 (.mov (.t 11)), o 73 (.bin .lss (.t 72) (ci 0))])
      (.cond (.t 73) (.seq (.reg [o 4 (.mov (ci (-1)))])
        .ret) .skip))
      (.reg [o 74 (.mov (.t 8)), o 75 (.mov (.t 11)), o 76 (.bin .add (.t 75) (ci 1)), o 77 (.bin .add (.t 74) (.t 76)), o 8 (.mov (.t 77))]))) .skip))
    (.seq (.seq (.reg [o 78 (.mov (.t 0)), o 79 (.mov (.t 8)), o 80 (.bin .add (.t 79) (ci 1)), o 81 (.idxs (.t 78) (.t 80)), o 82 (.mov (.t 7)), o 83 (.eq .int (.t 81) (.t 82)), o 84 (.mov (.t 83)), gt 84 (some 85) (.mov (.t 0)), gt 84 (some 86) (.mov (.t 8)), gt 84 (some 87) (.mov (.t 8)), gt 84 (some 88) (.mov (.t 5)), gt 84 (some 89) (.bin .add (.t 87) (.t 88)), gt 84 (some 90) (.slstr (.t 85) (some (.t 86)) (some (.t 89))), gt 84 (some 91) (.mov (.t 1)), gt 84 (some 92) (.eq .str (.t 90) (.t 91)), o 93 (.pick (.t 84) (.t 92) (.c (.bool false)))])
    (.cond (.t 93) (.seq (.reg [o 94 (.mov (.t 8)), o 4 (.mov (.t 94))])
      .ret) .skip))
    (.seq (.reg [o 95 (.mov (.t 8)), o 96 (.bin .add (.t 95) (ci 1)), o 8 (.mov (.t 96))])
    (.seq (.reg [o 97 (.mov (.t 10)), o 98 (.bin .add (.t 97) (ci 1)), o 10 (.mov (.t 98))])
    (.seq (.reg [o 99 (.mov (.t 5)), o 100 (.load false 1 (.c (.glob g_ibytealg_MaxLen))), o 101 (.bin .leq (.t 99) (.t 100)), o 102 (.mov (.t 101)), gt 102 (some 103) (.mov (.t 10)), gt 102 (some 104) (.mov (.t 8)), gt 102 (some 105) (.call (cf fn_ibytealg_Cutover) [(.t 104)]), gt 102 (some 106) (.bin .gtr (.t 103) (.t 105)), o 107 (.pick (.t 102) (.t 106) (.c (.bool false)))])
    (.cond (.t 107) (.seq (.reg [o 108 (.mov (.t 0)), o 109 (.mov (.t 8)), o 110 (.slstr (.t 108) (some (.t 109)) none), o 111 (.mov (.t 1)), o 112 (.call (cf fn_ibytealg_IndexString) [(.t 110), (.t 111)]), o 12 (.mov (.t 112))])
      (.seq (.seq (.reg [o 113 (.mov (.t 12)), o 114 (.bin .geq (.t 113) (ci 0))])
      (.cond (.t 114) (.seq (.reg [o 115 (.mov (.t 12)), o 116 (.mov (.t 8)), o 117 (.bin .add (.t 115) (.t 116)), o 4 (.mov (.t 117))])
        .ret) .skip))
      (.seq (.reg [o 4 (.mov (ci (-1)))])
      .ret))) (.seq (.reg [o 118 (.mov (.t 5)), o 119 (.load false 1 (.c (.glob g_ibytealg_MaxLen))), o 120 (.bin .gtr (.t 118) (.t 119)), o 121 (.mov (.t 120)), gt 121 (some 122) (.mov (.t 10)), gt 121 (some 123) (.mov (.t 8)), gt 121 (some 124) (.shf .shr (.t 123) (.c (.int .u64 4))), gt 121 (some 125) (.bin .add (ci 4) (.t 124)), gt 121 (some 126) (.bin .geq (.t 122) (.t 125)), o 127 (.pick (.t 121) (.t 126) (.c (.bool false))), o 128 (.mov (.t 127)), gt 128 (some 129) (.mov (.t 8)), gt 128 (some 130) (.mov (.t 9)), gt 128 (some 131) (.bin .lss (.t 129) (.t 130)), o 132 (.pick (.t 128) (.t 131) (.c (.bool false)))])
      (.cond (.t 132) (.seq (.reg [o 133 (.mov (.t 0)), o 134 (.mov (.t 8)), o 135 (.slstr (.t 133) (some (.t 134)) none), o 136 (.mov (.t 1)), o 137 (.call (cf fn_ibytealg_IndexRabinKarp_string) [(.t 135), (.t 136)]), o 13 (.mov (.t 137))])
        (.seq (.seq (.reg [o 138 (.mov (.t 13)), o 139 (.bin .lss (.t 138) (ci 0))])
        (.cond (.t 139) (.seq (.reg [o 4 (.mov (ci (-1)))])
          .ret) .skip))
        (.seq (.reg [o 140 (.mov (.t 8)), o 141 (.mov (.t 13)), o 142 (.bin .add (.t 140) (.t 141)), o 4 (.mov (.t 142))])
        .ret))) .skip))))))))))
def pf_istringslite_Index : PF := ⟨143, [.t 4],
  (.seq (.reg [o 4 (.mov (ci 0))])
  (.seq (.reg [o 14 (.mov (.t 1)), o 15 (.len .str (.t 14)), o 5 (.mov (.t 15))])
  (.seq (.block 0 (.seq (.reg [o 17 (.mov (.t 5)), o 18 (.eq .int (.t 17) (ci 0)), o 19 (.mov (.t 18)), gf 19 (some 20) (.mov (.t 1)), gf 19 (some 21) (.mov (.t 0)), gf 19 (some 22) (.eq .str (.t 20) (.t 21)), o 23 (.pick (.t 19) (.c (.bool true)) (.t 22)), o 16 (.mov (.t 23))])
    (.cond (.t 16) (.seq (.reg [o 4 (.mov (ci 0))])
      .ret) (.seq (.reg [o 25 (.mov (.t 5)), o 26 (.eq .int (.t 25) (ci 1)), o 24 (.mov (.t 26))])
      (.cond (.t 24) (.seq (.reg [o 27 (.mov (.t 0)), o 28 (.mov (.t 1)), o 29 (.idxs (.t 28) (ci 0)), o 30 (.call (cf fn_istringslite_IndexByte) [(.t 27), (.t 29)]), o 4 (.mov (.t 30))])
        .ret) (.seq (.reg [o 32 (.mov (.t 5)), o 33 (.mov (.t 0)), o 34 (.len .str (.t 33)), o 35 (.bin .geq (.t 32) (.t 34)), o 31 (.mov (.t 35))])
        (.cond (.t 31) (.seq (.reg [o 4 (.mov (ci (-1)))])
          .ret) (.seq (.reg [o 37 (.mov (.t 5)), o 38 (.load false 1 (.c (.glob g_ibytealg_MaxLen))), o 39 (.bin .leq (.t 37) (.t 38)), o 40 (.mov (.t 39)), gt 40 (some 41) (.mov (.t 0)), gt 40 (some 42) (.len .str (.t 41)), gt 40 (some 43) (.bin .leq (.t 42) (ci 64)), o 44 (.pick (.t 40) (.t 43) (.c (.bool false))), o 36 (.mov (.t 44))])
          (.cond (.t 36) (.seq (.reg [o 45 (.mov (.t 0)), o 46 (.mov (.t 1)), o 47 (.call (cf fn_ibytealg_IndexString) [(.t 45), (.t 46)]), o 4 (.mov (.t 47))])
            .ret) .skip)))))))))
  (.seq (.reg [o 48 (.mov (.t 1)), o 49 (.idxs (.t 48) (ci 0)), o 6 (.mov (.t 49))])
  (.seq (.reg [o 50 (.mov (.t 1)), o 51 (.idxs (.t 50) (ci 1)), o 7 (.mov (.t 51))])
  (.seq (.reg [o 8 (.mov (ci 0))])
  (.seq (.reg [o 52 (.mov (.t 0)), o 53 (.len .str (.t 52)), o 54 (.mov (.t 5)), o 55 (.bin .sub (.t 53) (.t 54)), o 56 (.bin .add (.t 55) (ci 1)), o 9 (.mov (.t 56))])
  (.seq (.reg [o 10 (.mov (ci 0))])
  (.seq (.block 1 (.loop l1_istringslite_Index))
  (.seq (.reg [o 4 (.mov (ci (-1)))])
  .ret))))))))))⟩

def l1_handle_Book_Issued : PC :=
  (.seq (.reg [o 8 (.bin .lss (.t 7) (ci 32))])
  (.seq (.cond (.t 8) .skip (.exit 0))
  (.seq (.block 1 (.seq (.reg [o 9 (.mov (.t 7)), o 4 (.mov (.t 9))])
    (.seq (.reg [o 11 (.load true 96 (.t 1)), o 12 (.mov (.t 4)), o 13 (.call (cf fn_handle_Book_At) [(.t 11), (.t 12)]), o 10 (.mov (.t 13)), o 14 (.ext (.t 10) 0), o 15 (.ext (.t 10) 1), o 5 (.mov (.t 14)), o 6 (.mov (.t 15))])
    (.seq (.reg [o 16 (.mov (.t 6))])
    (.cond (.t 16) (.reg [o 17 (.mov (.t 3)), o 18 (.mov (.t 5)), o 19 (.bslice [(.int .u32 0)] 1 [(0, 1, (.t 18))]), o 20 (.append ty_handle_Handle 1 4 (.t 17) (.t 19)), o 3 (.mov (.t 20))]) .skip)))))
  (.reg [o 21 (.bin .add (.t 7) (ci 1)), o 7 (.mov (.t 21))]))))
def pf_handle_Book_Issued : PF := ⟨23, [.t 2],
  (.seq (.reg [o 1 (.box (.t 0) none), o 2 (.mov (.c .nils))])
  (.seq (.reg [o 3 (.mov (.c .nils))])
  (.seq (.seq (.reg [o 7 (.mov (ci 0))])
  (.block 0 (.loop l1_handle_Book_Issued)))
  (.seq (.reg [o 22 (.mov (.t 3)), o 2 (.mov (.t 22))])
  .ret))))⟩

def pf_handle_Book_Good : PF := ⟨23, [.t 4],
  (.seq (.reg [o 2 (.box (.t 0) none), o 4 (.mov (.c (.bool false)))])
  (.seq (.reg [o 8 (.mov (.t 1)), o 9 (.call (cf fn_handle_Handle_Slot) [(.t 8)]), o 7 (.mov (.t 9)), o 10 (.ext (.t 7) 0), o 11 (.ext (.t 7) 1), o 5 (.mov (.t 10)), o 6 (.mov (.t 11))])
  (.seq (.reg [o 12 (.mov (.t 6)), o 13 (.mov (.t 12)), gt 13 (some 14) (.mov (.t 5)), gt 13 (some 15) (.faddr 0 (.t 2)), gt 13 (some 16) (.iaddra 32 3 (.t 15) (.t 14)), gt 13 (some 17) (.load true 3 (.t 16)), gt 13 (some 18) (.mov (.t 1)), gt 13 (some 19) (.shf .shr (.t 18) (.c (.int .u64 8))), gt 13 (some 20) (.build [(.int .u32 0), (.bool false), (.bool false)] [(0, 1, (.t 19)), (1, 1, (.c (.bool true)))]), gt 13 (some 21) (.eq (.agg [.int, .bool, .bool]) (.t 17) (.t 20)), o 22 (.pick (.t 13) (.t 21) (.c (.bool false))), o 4 (.mov (.t 22))])
  .ret)))⟩

def pf_table_Table_up : PF := ⟨24, [.t 4],
  (.seq (.reg [o 2 (.box (.t 0) none), o 4 (.mov (.c (.int .u32 0)))])
  (.seq (.reg [o 9 (.mov (.t 1)), o 10 (.call (cf fn_handle_Handle_Slot) [(.t 9)]), o 8 (.mov (.t 10)), o 11 (.ext (.t 8) 0), o 12 (.ext (.t 8) 1), o 5 (.mov (.t 11)), o 6 (.mov (.t 12))])
  (.seq (.seq (.reg [o 13 (.mov (.t 5)), o 14 (.faddr 96 (.t 2)), o 15 (.iaddra 32 12 (.t 14) (.t 13)), o 16 (.faddr 0 (.t 15)), o 17 (.load false 1 (.t 16)), o 7 (.mov (.t 17))])
  (.seq (.reg [o 18 (.faddr 0 (.t 2)), o 19 (.faddr 0 (.t 18)), o 20 (.load true 96 (.t 19)), o 21 (.mov (.t 7)), o 22 (.call (cf fn_handle_Book_Good) [(.t 20), (.t 21)])])
  (.cond (.t 22) (.seq (.reg [o 23 (.mov (.t 7)), o 4 (.mov (.t 23))])
    .ret) .skip)))
  (.seq (.reg [o 4 (.mov (.c (.int .u32 0)))])
  .ret))))⟩

def l1_forest_Root : PC :=
  (.block 1 (.reg [o 16 (.mov (.t 5)), u (.store 1 (.t 3) (.t 16))]))
def pf_forest_Root : PF := ⟨18, [.t 4],
  (.seq (.reg [o 2 (.box (.t 0) none), o 3 (.box (.t 1) none), o 4 (.mov (.c (.int .u32 0)))])
  (.seq (.seq (.reg [o 6 (.faddr 0 (.t 2)), o 7 (.faddr 0 (.t 6)), o 8 (.load true 96 (.t 7)), o 9 (.load false 1 (.t 3)), o 10 (.call (cf fn_handle_Book_Good) [(.t 8), (.t 9)]), o 11 (.un .not (.t 10))])
  (.cond (.t 11) (.seq (.reg [o 4 (.mov (.c (.int .u32 0)))])
    .ret) .skip))
  (.seq (.seq (.reg [o 12 (.load true 480 (.t 2)), o 13 (.load false 1 (.t 3)), o 14 (.call (cf fn_forest_above) [(.t 12), (.t 13)])])
  (.block 0 (.rfun (.t 14) [15] (.reg [o 5 (.mov (.t 15))]) l1_forest_Root)))
  (.seq (.reg [o 17 (.load false 1 (.t 3)), o 4 (.mov (.t 17))])
  .ret))))⟩

def l2_strings_Join : PC :=
  (.seq (.reg [o 66 (.bin .lss (.t 65) (.t 64))])
  (.seq (.cond (.t 66) .skip (.exit 3))
  (.seq (.block 4 (.seq (.reg [o 67 (.iaddrs 1 (.t 63) (.t 65)), o 68 (.load false 1 (.t 67)), o 10 (.mov (.t 68))])
    (.seq (.reg [o 69 (.mov (.t 1)), o 70 (.call (cf fn_Pstrings_Builder_WriteString) [(.t 8), (.t 69)])])
    (.reg [o 71 (.mov (.t 10)), o 72 (.call (cf fn_Pstrings_Builder_WriteString) [(.t 8), (.t 71)])]))))
  (.reg [o 73 (.bin .add (.t 65) (ci 1)), o 65 (.mov (.t 73))]))))
def l1_strings_Join : PC :=
  (.seq (.reg [o 42 (.bin .lss (.t 41) (.t 40))])
  (.seq (.cond (.t 42) .skip (.exit 1))
  (.seq (.block 2 (.seq (.reg [o 43 (.iaddrs 1 (.t 39) (.t 41)), o 44 (.load false 1 (.t 43)), o 7 (.mov (.t 44))])
    (.seq (.seq (.reg [o 45 (.mov (.t 7)), o 46 (.len .str (.t 45)), o 47 (.mov (.t 5)), o 48 (.bin .sub (ci 9223372036854775807) (.t 47)), o 49 (.bin .gtr (.t 46) (.t 48))])
    (.cond (.t 49) (.reg [o 50 (.mki ty_string (.c (S str_04d12309))), u (.panic (.t 50))]) .skip))
    (.reg [o 51 (.mov (.t 5)), o 52 (.mov (.t 7)), o 53 (.len .str (.t 52)), o 54 (.bin .add (.t 51) (.t 53)), o 5 (.mov (.t 54))]))))
  (.reg [o 55 (.bin .add (.t 41) (ci 1)), o 41 (.mov (.t 55))]))))
def pf_strings_Join : PF := ⟨75, [.t 4],
  (.seq (.reg [o 4 (.mov (.c (S [])))])
  (.seq (.seq (.reg [o 11 (.mov (.t 0)), o 12 (.len .sl (.t 11))])
  (.block 0 (.seq (.reg [o 14 (.eq .int (.t 12) (ci 0)), o 13 (.mov (.t 14))])
    (.cond (.t 13) (.seq (.reg [o 4 (.mov (.c (S [])))])
      .ret) (.seq (.reg [o 16 (.eq .int (.t 12) (ci 1)), o 15 (.mov (.t 16))])
      (.cond (.t 15) (.seq (.reg [o 17 (.mov (.t 0)), o 18 (.iaddrs 1 (.t 17) (ci 0)), o 19 (.load false 1 (.t 18)), o 4 (.mov (.t 19))])
        .ret) .skip))))))
  (.seq (.reg [o 5 (.mov (ci 0))])
  (.seq (.seq (.reg [o 20 (.mov (.t 1)), o 21 (.len .str (.t 20)), o 22 (.bin .gtr (.t 21) (ci 0))])
  (.cond (.t 22) (.seq (.seq (.reg [o 23 (.mov (.t 1)), o 24 (.len .str (.t 23)), o 25 (.mov (.t 0)), o 26 (.len .sl (.t 25)), o 27 (.bin .sub (.t 26) (ci 1)), o 28 (.bin .quo (ci 9223372036854775807) (.t 27)), o 29 (.bin .geq (.t 24) (.t 28))])
    (.cond (.t 29) (.reg [o 30 (.mki ty_string (.c (S str_04d12309))), u (.panic (.t 30))]) .skip))
    (.reg [o 31 (.mov (.t 5)), o 32 (.mov (.t 1)), o 33 (.len .str (.t 32)), o 34 (.mov (.t 0)), o 35 (.len .sl (.t 34)), o 36 (.bin .sub (.t 35) (ci 1)), o 37 (.bin .mul (.t 33) (.t 36)), o 38 (.bin .add (.t 31) (.t 37)), o 5 (.mov (.t 38))])) .skip))
  (.seq (.seq (.reg [o 39 (.mov (.t 0)), o 40 (.len .sl (.t 39)), o 41 (.mov (ci 0))])
  (.block 1 (.loop l1_strings_Join)))
  (.seq (.reg [o 8 (.alloc [.nilp, .nils] (some ty_strings_Builder))])
  (.seq (.reg [o 56 (.mov (.t 5)), o 57 (.call (cf fn_Pstrings_Builder_Grow) [(.t 8), (.t 56)])])
  (.seq (.reg [o 58 (.mov (.t 0)), o 59 (.iaddrs 1 (.t 58) (ci 0)), o 60 (.load false 1 (.t 59)), o 61 (.call (cf fn_Pstrings_Builder_WriteString) [(.t 8), (.t 60)])])
  (.seq (.seq (.reg [o 62 (.mov (.t 0)), o 63 (.slsl 1 (.t 62) (some (ci 1)) none none), o 64 (.len .sl (.t 63)), o 65 (.mov (ci 0))])
  (.block 3 (.loop l2_strings_Join)))
  (.seq (.reg [o 74 (.call (cf fn_Pstrings_Builder_String) [(.t 8)]), o 4 (.mov (.t 74))])
  .ret))))))))))⟩

def pf_table_quota : PF := ⟨9, [.t 2],
  (.seq (.reg [o 2 (.mov (.c (.bool false)))])
  (.seq (.reg [o 3 (.mov (.t 0)), o 4 (.bin .geq (.t 3) (ci 0)), o 5 (.mov (.t 4)), gt 5 (some 6) (.mov (.t 0)), gt 5 (some 7) (.bin .leq (.t 6) (ci 64)), o 8 (.pick (.t 5) (.t 7) (.c (.bool false))), o 2 (.mov (.t 8))])
  .ret))⟩

def l1_handle_Book_Issue : PC :=
  (.seq (.reg [o 10 (.bin .lss (.t 9) (ci 32))])
  (.seq (.cond (.t 10) .skip (.exit 0))
  (.seq (.block 1 (.seq (.reg [o 11 (.mov (.t 9)), o 12 (.idxa true 32 3 (.t 8) (.t 9)), o 6 (.alloc [(.int .u32 0), (.bool false), (.bool false)] none), o 5 (.mov (.t 11)), u (.store 3 (.t 6) (.t 12))])
    (.seq (.seq (.reg [o 13 (.faddr 1 (.t 6)), o 14 (.load false 1 (.t 13)), o 15 (.mov (.t 14)), gf 15 (some 16) (.faddr 2 (.t 6)), gf 15 (some 17) (.load false 1 (.t 16)), o 18 (.pick (.t 15) (.c (.bool true)) (.t 17))])
    (.cond (.t 18) (.exit 1) .skip))
    (.seq (.reg [o 19 (.mov (.t 5)), o 20 (.faddr 0 (.t 1)), o 21 (.iaddra 32 3 (.t 20) (.t 19)), o 22 (.faddr 1 (.t 21)), u (.store 1 (.t 22) (.c (.bool true)))])
    (.seq (.dreg [(o 23 (.load true 96 (.t 1)), []), (o 24 (.mov (.t 5)), []), (o 25 (.faddr 0 (.t 6)), []), (o 26 (.load false 1 (.t 25)), [0]), (o 27 (.call (cf fn_handle_of) [(.t 24), (.t 26)]), [0]), (u (.store 96 (.t 2) (.t 23)), []), (o 3 (.mov (.t 27)), []), (o 4 (.mov (.c (.bool true))), [])])
    .ret)))))
  (.reg [o 28 (.bin .add (.t 9) (ci 1)), o 9 (.mov (.t 28))]))))
def pf_handle_Book_Issue : PF := ⟨30, [.cell 2 true 96, .t 3, .t 4],
  (.seq (.reg [o 1 (.box (.t 0) none), o 2 (.alloc z96_9863 none), o 3 (.mov (.c (.int .u32 0))), o 4 (.mov (.c (.bool false)))])
  (.seq (.seq (.reg [o 7 (.faddr 0 (.t 1)), o 8 (.load true 96 (.t 7)), o 9 (.mov (ci 0))])
  (.block 0 (.loop l1_handle_Book_Issue)))
  (.seq (.reg [o 29 (.load true 96 (.t 1)), u (.store 96 (.t 2) (.t 29)), o 3 (.mov (.c (.int .u32 0))), o 4 (.mov (.c (.bool false)))])
  .ret)))⟩

def l1_token_Tokens_those : PC :=
  (.seq (.reg [o 15 (.bin .lss (.t 14) (.t 13))])
  (.seq (.cond (.t 15) .skip (.exit 0))
  (.seq (.block 1 (.seq (.reg [o 16 (.iaddrs 1 (.t 12) (.t 14)), o 17 (.load false 1 (.t 16)), o 7 (.mov (.t 17))])
    (.seq (.reg [o 19 (.load true 176 (.t 2)), o 20 (.mov (.t 7)), o 21 (.call (cf fn_token_Tokens_Get) [(.t 19), (.t 20)]), o 18 (.mov (.t 21)), o 22 (.ext (.t 18) 0), o 23 (.ext (.t 18) 1), o 8 (.alloc [(.int .u32 0), (.int .u8 0), (.int .u8 0), (.bool false), (.int .u32 0)] none), u (.store 5 (.t 8) (.t 22)), o 9 (.mov (.t 23))])
    (.seq (.reg [o 24 (.mov (.t 1)), o 25 (.load true 5 (.t 8)), o 26 (.call (.t 24) [(.t 25)])])
    (.cond (.t 26) (.reg [o 27 (.mov (.t 5)), o 28 (.mov (.t 7)), o 29 (.bslice [(.int .u32 0)] 1 [(0, 1, (.t 28))]), o 30 (.append ty_handle_Handle 1 4 (.t 27) (.t 29)), o 5 (.mov (.t 30))]) .skip)))))
  (.reg [o 31 (.bin .add (.t 14) (ci 1)), o 14 (.mov (.t 31))]))))
def pf_token_Tokens_those : PF := ⟨33, [.t 4],
  (.seq (.reg [o 2 (.box (.t 0) none), o 4 (.mov (.c .nils))])
  (.seq (.reg [o 5 (.mov (.c .nils))])
  (.seq (.seq (.reg [o 10 (.faddr 0 (.t 2)), o 11 (.load true 96 (.t 10)), o 12 (.call (cf fn_handle_Book_Issued) [(.t 11)]), o 13 (.len .sl (.t 12)), o 14 (.mov (ci 0))])
  (.block 0 (.loop l1_token_Tokens_those)))
  (.seq (.reg [o 32 (.mov (.t 5)), o 4 (.mov (.t 32))])
  .ret))))⟩

def pf_token_Tokens_Of_1 : PF := ⟨9, [.t 3],
  (.seq (.reg [o 2 (.box (.t 0) none), o 3 (.mov (.c (.bool false)))])
  (.seq (.reg [o 4 (.faddr 2 (.t 2)), o 5 (.load false 1 (.t 4)), o 6 (.conv .i64 (.t 5)), o 7 (.load false 1 (.t 1)), o 8 (.eq .int (.t 6) (.t 7)), o 3 (.mov (.t 8))])
  .ret))⟩

def pf_token_Tokens_may : PF := ⟨89, [.t 4],
  (.seq (.reg [o 2 (.box (.t 0) none), o 3 (.box (.t 1) none), o 4 (.mov (ci 0))])
  (.seq (.reg [o 10 (.load true 176 (.t 2)), o 11 (.faddr 4 (.t 3)), o 12 (.load false 1 (.t 11)), o 13 (.call (cf fn_token_Tokens_Get) [(.t 10), (.t 12)]), o 9 (.mov (.t 13)), o 14 (.ext (.t 9) 0), o 15 (.ext (.t 9) 1), o 5 (.alloc [(.int .u32 0), (.int .u8 0), (.int .u8 0), (.bool false), (.int .u32 0)] none), u (.store 5 (.t 5) (.t 14)), o 6 (.mov (.t 15))])
  (.seq (.reg [o 17 (.load true 176 (.t 2)), o 18 (.faddr 0 (.t 3)), o 19 (.load false 1 (.t 18)), o 20 (.faddr 4 (.t 3)), o 21 (.load false 1 (.t 20)), o 22 (.call (cf fn_token_Tokens_right) [(.t 17), (.t 19), (.t 21)]), o 16 (.mov (.t 22)), o 23 (.ext (.t 16) 0), o 24 (.ext (.t 16) 1), o 7 (.mov (.t 23)), o 8 (.mov (.t 24))])
  (.seq (.block 0 (.seq (.reg [o 26 (.load true 176 (.t 2)), o 27 (.faddr 4 (.t 3)), o 28 (.load false 1 (.t 27)), o 29 (.call (cf fn_token_Tokens_good) [(.t 26), (.t 28)]), o 30 (.un .not (.t 29)), o 25 (.mov (.t 30))])
    (.cond (.t 25) (.seq (.reg [o 4 (.mov (ci 4))])
      .ret) (.seq (.reg [o 32 (.faddr 1 (.t 3)), o 33 (.load false 1 (.t 32)), o 34 (.bin .geq (.t 33) (.c (.int .u8 8))), o 35 (.mov (.t 34)), gf 35 (some 36) (.faddr 2 (.t 3)), gf 35 (some 37) (.load false 1 (.t 36)), gf 35 (some 38) (.bin .geq (.t 37) (.c (.int .u8 8))), o 39 (.pick (.t 35) (.c (.bool true)) (.t 38)), o 40 (.mov (.t 39)), gf 40 (some 41) (.faddr 1 (.t 3)), gf 40 (some 42) (.load false 1 (.t 41)), gf 40 (some 43) (.faddr 2 (.t 3)), gf 40 (some 44) (.load false 1 (.t 43)), gf 40 (some 45) (.eq .int (.t 42) (.t 44)), o 46 (.pick (.t 40) (.c (.bool true)) (.t 45)), o 47 (.mov (.t 46)), gf 47 (some 48) (.faddr 0 (.t 3)), gf 47 (some 49) (.load false 1 (.t 48)), gf 47 (some 50) (.eq .int (.t 49) (.c (.int .u32 0))), o 51 (.pick (.t 47) (.c (.bool true)) (.t 50)), o 31 (.mov (.t 51))])
      (.cond (.t 31) (.seq (.reg [o 4 (.mov (ci 2))])
        .ret) (.seq (.reg [o 53 (.faddr 4 (.t 3)), o 54 (.load false 1 (.t 53)), o 55 (.ne .int (.t 54) (.c (.int .u32 0))), o 56 (.mov (.t 55)), gt 56 (some 57) (.faddr 0 (.t 5)), gt 56 (some 58) (.load false 1 (.t 57)), gt 56 (some 59) (.faddr 0 (.t 3)), gt 56 (some 60) (.load false 1 (.t 59)), gt 56 (some 61) (.ne .int (.t 58) (.t 60)), gt 56 (some 62) (.mov (.t 61)), gf 62 (some 63) (.faddr 2 (.t 5)), gf 62 (some 64) (.load false 1 (.t 63)), gf 62 (some 65) (.faddr 1 (.t 3)), gf 62 (some 66) (.load false 1 (.t 65)), gf 62 (some 67) (.ne .int (.t 64) (.t 66)), gt 56 (some 68) (.pick (.t 62) (.c (.bool true)) (.t 67)), gt 56 (some 69) (.mov (.t 68)), gf 69 (some 70) (.faddr 3 (.t 3)), gf 69 (some 71) (.load false 1 (.t 70)), gf 69 (some 72) (.mov (.t 71)), gt 72 (some 73) (.faddr 3 (.t 5)), gt 72 (some 74) (.load false 1 (.t 73)), gt 72 (some 75) (.un .not (.t 74)), gf 69 (some 76) (.pick (.t 72) (.t 75) (.c (.bool false))), gt 56 (some 77) (.pick (.t 69) (.c (.bool true)) (.t 76)), o 78 (.pick (.t 56) (.t 77) (.c (.bool false))), o 52 (.mov (.t 78))])
        (.cond (.t 52) (.seq (.reg [o 4 (.mov (ci 12))])
          .ret) (.seq (.reg [o 80 (.mov (.t 8)), o 81 (.mov (.t 80)), gf 81 (some 82) (.faddr 3 (.t 3)), gf 81 (some 83) (.load false 1 (.t 82)), gf 81 (some 84) (.mov (.t 83)), gt 84 (some 85) (.mov (.t 7)), gt 84 (some 86) (.bin .gtr (.t 85) (ci 0)), gf 81 (some 87) (.pick (.t 84) (.t 86) (.c (.bool false))), o 88 (.pick (.t 81) (.c (.bool true)) (.t 87)), o 79 (.mov (.t 88))])
          (.cond (.t 79) (.seq (.reg [o 4 (.mov (ci 5))])
            .ret) .skip)))))))))
  (.seq (.reg [o 4 (.mov (ci 0))])
  .ret)))))⟩

def pf_strconv_Itoa : PF := ⟨5, [.t 2],
  (.seq (.reg [o 2 (.mov (.c (S [])))])
  (.seq (.reg [o 3 (.mov (.t 0)), o 4 (.call (cf fn_istrconv_Itoa) [(.t 3)]), o 2 (.mov (.t 4))])
  .ret))⟩

def pf_strconv_FormatUint : PF := ⟨8, [.t 4],
  (.seq (.reg [o 4 (.mov (.c (S [])))])
  (.seq (.reg [o 5 (.mov (.t 0)), o 6 (.mov (.t 1)), o 7 (.call (cf fn_istrconv_FormatUint) [(.t 5), (.t 6)]), o 4 (.mov (.t 7))])
  .ret))⟩

def l1_mail_Box_each_1 : PC :=
  (.seq (.reg [o 7 (.bin .lss (.t 6) (.t 5))])
  (.seq (.cond (.t 7) .skip (.exit 0))
  (.seq (.block 1 (.seq (.reg [o 8 (.mov (.t 6)), o 3 (.mov (.t 8))])
    (.seq (.reg [o 9 (.mov (.t 0)), o 10 (.load true 19 (.t 1)), o 11 (.mov (.t 3)), o 12 (.call (cf fn_mail_Box_at) [(.t 10), (.t 11)]), o 13 (.faddr 0 (.t 1)), o 14 (.iaddra 4 4 (.t 13) (.t 12)), o 15 (.load true 4 (.t 14)), o 16 (.call (.t 9) [(.t 15)]), o 17 (.un .not (.t 16))])
    (.cond (.t 17) .ret .skip))))
  (.reg [o 18 (.bin .add (.t 6) (ci 1)), o 6 (.mov (.t 18))]))))
def pf_mail_Box_each_1 : PF := ⟨19, [],
  (.seq (.reg [o 4 (.faddr 17 (.t 1)), o 5 (.load false 1 (.t 4)), o 6 (.mov (ci 0))])
  (.block 0 (.loop l1_mail_Box_each_1)))⟩

def pf_mail_Box_at : PF := ⟨10, [.t 4],
  (.seq (.reg [o 2 (.box (.t 0) none), o 4 (.mov (ci 0))])
  (.seq (.reg [o 5 (.faddr 16 (.t 2)), o 6 (.load false 1 (.t 5)), o 7 (.mov (.t 1)), o 8 (.bin .add (.t 6) (.t 7)), o 9 (.bin .rem (.t 8) (ci 4)), o 4 (.mov (.t 9))])
  .ret))⟩

def l1_unicode_utf8_RuneCountInString : PC :=
  (.seq (.reg [o 5 (.nxt (.t 4)), o 6 (.ext (.t 5) 0)])
  (.seq (.cond (.t 6) .skip (.exit 0))
  (.block 1 (.reg [o 7 (.mov (.t 2)), o 8 (.bin .add (.t 7) (ci 1)), o 2 (.mov (.t 8))]))))
def pf_unicode_utf8_RuneCountInString : PF := ⟨10, [.t 2],
  (.seq (.reg [o 2 (.mov (ci 0))])
  (.seq (.seq (.reg [o 3 (.mov (.t 0)), o 4 (.rng (.t 3))])
  (.block 0 (.loop l1_unicode_utf8_RuneCountInString)))
  (.seq (.reg [o 9 (.mov (.t 2)), o 2 (.mov (.t 9))])
  .ret)))⟩

def pf_unicode_utf8_DecodeRuneInString : PF := ⟨19, [.t 2, .t 3],
  (.seq (.reg [o 2 (.mov (.c (.int .i32 0))), o 3 (.mov (ci 0))])
  (.seq (.seq (.reg [o 4 (.mov (.t 0)), o 5 (.ne .str (.t 4) (.c (S []))), o 6 (.mov (.t 5)), gt 6 (some 7) (.mov (.t 0)), gt 6 (some 8) (.idxs (.t 7) (ci 0)), gt 6 (some 9) (.bin .lss (.t 8) (.c (.int .u8 128))), o 10 (.pick (.t 6) (.t 9) (.c (.bool false)))])
  (.cond (.t 10) (.seq (.reg [o 11 (.mov (.t 0)), o 12 (.idxs (.t 11) (ci 0)), o 13 (.conv .i32 (.t 12)), o 2 (.mov (.t 13)), o 3 (.mov (ci 1))])
    .ret) (.reg [o 15 (.mov (.t 0)), o 16 (.call (cf fn_unicode_utf8_decodeRuneInStringSlow) [(.t 15)]), o 14 (.mov (.t 16)), o 17 (.ext (.t 14) 0), o 18 (.ext (.t 14) 1), o 2 (.mov (.t 17)), o 3 (.mov (.t 18))])))
  .ret))⟩

def pf_istringslite_IndexByte : PF := ⟨8, [.t 4],
  (.seq (.reg [o 4 (.mov (ci 0))])
  (.seq (.reg [o 5 (.mov (.t 0)), o 6 (.mov (.t 1)), o 7 (.call (cf fn_ibytealg_IndexByteString) [(.t 5), (.t 6)]), o 4 (.mov (.t 7))])
  .ret))⟩

def pf_ibytealg_Cutover : PF := ⟨6, [.t 2],
  (.seq (.reg [o 2 (.mov (ci 0))])
  (.seq (.reg [o 3 (.mov (.t 0)), o 4 (.bin .add (.t 3) (ci 16)), o 5 (.bin .quo (.t 4) (ci 8)), o 2 (.mov (.t 5))])
  .ret))⟩

def l2_ibytealg_IndexRabinKarp_string : PC :=
  (.seq (.seq (.reg [o 41 (.mov (.t 10)), o 42 (.mov (.t 0)), o 43 (.len .str (.t 42)), o 44 (.bin .lss (.t 41) (.t 43))])
  (.cond (.t 44) .skip (.exit 2)))
  (.block 3 (.seq (.reg [o 45 (.mov (.t 8)), o 46 (.bin .mul (.t 45) (.c (.int .u32 16777619))), o 8 (.mov (.t 46))])
    (.seq (.reg [o 47 (.mov (.t 8)), o 48 (.mov (.t 0)), o 49 (.mov (.t 10)), o 50 (.idxs (.t 48) (.t 49)), o 51 (.conv .u32 (.t 50)), o 52 (.bin .add (.t 47) (.t 51)), o 8 (.mov (.t 52))])
    (.seq (.reg [o 53 (.mov (.t 8)), o 54 (.mov (.t 6)), o 55 (.mov (.t 0)), o 56 (.mov (.t 10)), o 57 (.mov (.t 7)), o 58 (.bin .sub (.t 56) (.t 57)), o 59 (.idxs (.t 55) (.t 58)), o 60 (.conv .u32 (.t 59)), o 61 (.bin .mul (.t 54) (.t 60)), o 62 (.bin .sub (.t 53) (.t 61)), o 8 (.mov (.t 62))])
    (.seq (.reg [o 63 (.mov (.t 10)), o 64 (.bin .add (.t 63) (ci 1)), o 10 (.mov (.t 64))])
    (.seq (.reg [o 65 (.mov (.t 8)), o 66 (.mov (.t 5)), o 67 (.eq .int (.t 65) (.t 66)), o 68 (.mov (.t 67)), gt 68 (some 69) (.mov (.t 0)), gt 68 (some 70) (.mov (.t 10)), gt 68 (some 71) (.mov (.t 7)), gt 68 (some 72) (.bin .sub (.t 70) (.t 71)), gt 68 (some 73) (.mov (.t 10)), gt 68 (some 74) (.slstr (.t 69) (some (.t 72)) (some (.t 73))), gt 68 (some 75) (.mov (.t 1)), gt 68 (some 76) (.eq .str (.t 74) (.t 75)), o 77 (.pick (.t 68) (.t 76) (.c (.bool false)))])
    (.cond (.t 77) (.seq (.reg [o 78 (.mov (.t 10)), o 79 (.mov (.t 7)), o 80 (.bin .sub (.t 78) (.t 79)), o 4 (.mov (.t 80))])
      .ret) .skip))))))))
def l1_ibytealg_IndexRabinKarp_string : PC :=
  (.seq (.seq (.reg [o 18 (.mov (.t 9)), o 19 (.mov (.t 7)), o 20 (.bin .lss (.t 18) (.t 19))])
  (.cond (.t 20) .skip (.exit 0)))
  (.seq (.block 1 (.reg [o 23 (.mov (.t 8)), o 24 (.bin .mul (.t 23) (.c (.int .u32 16777619))), o 25 (.mov (.t 0)), o 26 (.mov (.t 9)), o 27 (.idxs (.t 25) (.t 26)), o 28 (.conv .u32 (.t 27)), o 29 (.bin .add (.t 24) (.t 28)), o 8 (.mov (.t 29))]))
  (.reg [o 21 (.mov (.t 9)), o 22 (.bin .add (.t 21) (ci 1)), o 9 (.mov (.t 22))])))
def pf_ibytealg_IndexRabinKarp_string : PF := ⟨81, [.t 4],
  (.seq (.reg [o 4 (.mov (ci 0))])
  (.seq (.reg [o 12 (.mov (.t 1)), o 13 (.call (cf fn_ibytealg_hashStr_string) [(.t 12)]), o 11 (.mov (.t 13)), o 14 (.ext (.t 11) 0), o 15 (.ext (.t 11) 1), o 5 (.mov (.t 14)), o 6 (.mov (.t 15))])
  (.seq (.reg [o 16 (.mov (.t 1)), o 17 (.len .str (.t 16)), o 7 (.mov (.t 17))])
  (.seq (.reg [o 8 (.mov (.c (.int .u32 0)))])
  (.seq (.seq (.reg [o 9 (.mov (ci 0))])
  (.block 0 (.loop l1_ibytealg_IndexRabinKarp_string)))
  (.seq (.seq (.reg [o 30 (.mov (.t 8)), o 31 (.mov (.t 5)), o 32 (.eq .int (.t 30) (.t 31)), o 33 (.mov (.t 32)), gt 33 (some 34) (.mov (.t 0)), gt 33 (some 35) (.mov (.t 7)), gt 33 (some 36) (.slstr (.t 34) none (some (.t 35))), gt 33 (some 37) (.mov (.t 1)), gt 33 (some 38) (.eq .str (.t 36) (.t 37)), o 39 (.pick (.t 33) (.t 38) (.c (.bool false)))])
  (.cond (.t 39) (.seq (.reg [o 4 (.mov (ci 0))])
    .ret) .skip))
  (.seq (.seq (.reg [o 40 (.mov (.t 7)), o 10 (.mov (.t 40))])
  (.block 2 (.loop l2_ibytealg_IndexRabinKarp_string)))
  (.seq (.reg [o 4 (.mov (ci (-1)))])
  .ret))))))))⟩

def pf_handle_Book_At : PF := ⟨27, [.t 4, .t 5],
  (.seq (.reg [o 2 (.box (.t 0) none), o 4 (.mov (.c (.int .u32 0))), o 5 (.mov (.c (.bool false)))])
  (.seq (.seq (.reg [o 6 (.mov (.t 1)), o 7 (.bin .lss (.t 6) (ci 0)), o 8 (.mov (.t 7)), gf 8 (some 9) (.mov (.t 1)), gf 8 (some 10) (.bin .geq (.t 9) (ci 32)), o 11 (.pick (.t 8) (.c (.bool true)) (.t 10)), o 12 (.mov (.t 11)), gf 12 (some 13) (.mov (.t 1)), gf 12 (some 14) (.faddr 0 (.t 2)), gf 12 (some 15) (.iaddra 32 3 (.t 14) (.t 13)), gf 12 (some 16) (.faddr 1 (.t 15)), gf 12 (some 17) (.load false 1 (.t 16)), gf 12 (some 18) (.un .not (.t 17)), o 19 (.pick (.t 12) (.c (.bool true)) (.t 18))])
  (.cond (.t 19) (.seq (.reg [o 4 (.mov (.c (.int .u32 0))), o 5 (.mov (.c (.bool false)))])
    .ret) .skip))
  (.seq (.reg [o 20 (.mov (.t 1)), o 21 (.mov (.t 1)), o 22 (.faddr 0 (.t 2)), o 23 (.iaddra 32 3 (.t 22) (.t 21)), o 24 (.faddr 0 (.t 23)), o 25 (.load false 1 (.t 24)), o 26 (.call (cf fn_handle_of) [(.t 20), (.t 25)]), o 4 (.mov (.t 26)), o 5 (.mov (.c (.bool true)))])
  .ret)))⟩

def pf_forest_above : PF := ⟨6, [.t 4],
  (.seq (.reg [o 2 (.box (.t 0) none), o 3 (.box (.t 1) none), o 4 (.mov (.c .nilf))])
  (.seq (.reg [o 5 (.mkf (.func fn_forest_above_1) [] [(.t 2), (.t 3)]), o 4 (.mov (.t 5))])
  .ret))⟩

def pf_Pstrings_Builder_Grow : PF := ⟨25, [],
  (.seq (.reg [o 4 (.mov (.t 0)), o 5 (.call (cf fn_Pstrings_Builder_copyCheck) [(.t 4)])])
  (.seq (.seq (.reg [o 6 (.mov (.t 1)), o 7 (.bin .lss (.t 6) (ci 0))])
  (.cond (.t 7) (.reg [o 8 (.mki ty_string (.c (S str_0331779f))), u (.panic (.t 8))]) .skip))
  (.seq (.dreg [(o 9 (.mov (.t 0)), []), (o 10 (.nilck (.t 9)), []), (o 11 (.faddr 1 (.t 10)), []), (o 12 (.load false 1 (.t 11)), []), (o 13 (.len .cap (.t 12)), []), (o 14 (.mov (.t 0)), []), (o 15 (.nilck (.t 14)), []), (o 16 (.faddr 1 (.t 15)), []), (o 17 (.load false 1 (.t 16)), [3, 4]), (o 18 (.len .sl (.t 17)), [3, 4]), (o 19 (.bin .sub (.t 13) (.t 18)), []), (o 20 (.mov (.t 1)), []), (o 21 (.bin .lss (.t 19) (.t 20)), [])])
  (.cond (.t 21) (.reg [o 22 (.mov (.t 0)), o 23 (.mov (.t 1)), o 24 (.call (cf fn_Pstrings_Builder_grow) [(.t 22), (.t 23)])]) .skip))))⟩

def pf_handle_of : PF := ⟨11, [.t 4],
  (.seq (.reg [o 4 (.mov (.c (.int .u32 0)))])
  (.seq (.reg [o 5 (.mov (.t 1)), o 6 (.shf .shl (.t 5) (.c (.int .u64 8))), o 7 (.mov (.t 0)), o 8 (.conv .u32 (.t 7)), o 9 (.bin .add (.t 6) (.t 8)), o 10 (.bin .add (.t 9) (.c (.int .u32 1))), o 4 (.mov (.t 10))])
  .ret))⟩

def pf_token_Tokens_right : PF := ⟨16, [.t 6, .t 7],
  (.seq (.reg [o 3 (.box (.t 0) none), o 4 (.box (.t 1) none), o 5 (.box (.t 2) none), o 6 (.mov (ci 0)), o 7 (.mov (.c (.bool false)))])
  (.seq (.reg [o 8 (.alloc [(.bool false)] none), u (.store 1 (.t 8) (.c (.bool false)))])
  (.seq (.reg [o 10 (.load true 176 (.t 3)), o 11 (.mkf (.func fn_token_Tokens_right_1) [] [(.t 4), (.t 5), (.t 8)]), o 12 (.call (cf fn_token_Tokens_those) [(.t 10), (.t 11)]), o 9 (.mov (.t 12))])
  (.seq (.dreg [(o 13 (.mov (.t 9)), []), (o 14 (.len .sl (.t 13)), []), (o 15 (.load false 1 (.t 8)), [1]), (o 6 (.mov (.t 14)), []), (o 7 (.mov (.t 15)), [])])
  .ret))))⟩

def pf_token_Tokens_good : PF := ⟨13, [.t 4],
  (.seq (.reg [o 2 (.box (.t 0) none), o 4 (.mov (.c (.bool false)))])
  (.seq (.reg [o 5 (.mov (.t 1)), o 6 (.eq .int (.t 5) (.c (.int .u32 0))), o 7 (.mov (.t 6)), gf 7 (some 8) (.faddr 0 (.t 2)), gf 7 (some 9) (.load true 96 (.t 8)), gf 7 (some 10) (.mov (.t 1)), gf 7 (some 11) (.call (cf fn_handle_Book_Good) [(.t 9), (.t 10)]), o 12 (.pick (.t 7) (.c (.bool true)) (.t 11)), o 4 (.mov (.t 12))])
  .ret))⟩

def pf_istrconv_Itoa : PF := ⟨5, [.t 2],
  (.seq (.reg [o 2 (.mov (.c (S [])))])
  (.seq (.reg [o 3 (.mov (.t 0)), o 4 (.call (cf fn_istrconv_FormatInt) [(.t 3), (ci 10)]), o 2 (.mov (.t 4))])
  .ret))⟩

def pf_istrconv_FormatUint : PF := ⟨32, [.t 4],
  (.seq (.reg [o 4 (.mov (.c (S [])))])
  (.seq (.seq (.reg [o 9 (.mov (.t 1)), o 10 (.eq .int (.t 9) (ci 10))])
  (.cond (.t 10) (.seq (.seq (.reg [o 11 (.mov (.t 0)), o 12 (.bin .lss (.t 11) (.c (.int .u64 100)))])
    (.cond (.t 12) (.seq (.reg [o 13 (.mov (.t 0)), o 14 (.conv .i64 (.t 13)), o 15 (.call (cf fn_istrconv_small) [(.t 14)]), o 4 (.mov (.t 15))])
      .ret) .skip))
    (.seq (.reg [o 5 (.alloc z24_72f9 none)])
    (.seq (.reg [o 16 (.mov (.t 0)), o 17 (.call (cf fn_istrconv_numDigits) [(.t 16)]), o 6 (.mov (.t 17))])
    (.seq (.reg [o 18 (.mov (.t 6)), o 19 (.slarr 24 1 (.t 5) none (some (.t 18))), o 20 (.mov (.t 0)), o 21 (.call (cf fn_istrconv_formatBase10) [(.t 19), (.t 20)])])
    (.seq (.reg [o 22 (.mov (.t 6)), o 23 (.slarr 24 1 (.t 5) none (some (.t 22))), o 24 (.b2s (.t 23)), o 4 (.mov (.t 24))])
    .ret))))) .skip))
  (.seq (.reg [o 26 (.mov (.t 0)), o 27 (.mov (.t 1)), o 28 (.call (cf fn_istrconv_formatBits) [(.c .nils), (.t 26), (.t 27), (.c (.bool false)), (.c (.bool false))]), o 25 (.mov (.t 28)), o 29 (.ext (.t 25) 0), o 30 (.ext (.t 25) 1), o 7 (.mov (.t 29)), o 8 (.mov (.t 30))])
  (.seq (.reg [o 31 (.mov (.t 8)), o 4 (.mov (.t 31))])
  .ret))))⟩

def pf_unicode_utf8_decodeRuneInStringSlow : PF := ⟨117, [.t 2, .t 3],
  (.seq (.reg [o 2 (.mov (.c (.int .i32 0))), o 3 (.mov (ci 0))])
  (.seq (.reg [o 13 (.mov (.t 0)), o 14 (.len .str (.t 13)), o 4 (.mov (.t 14))])
  (.seq (.seq (.reg [o 15 (.mov (.t 4)), o 16 (.bin .lss (.t 15) (ci 1))])
  (.cond (.t 16) (.seq (.reg [o 2 (.mov (.c (.int .i32 65533))), o 3 (.mov (ci 0))])
    .ret) .skip))
  (.seq (.reg [o 17 (.mov (.t 0)), o 18 (.idxs (.t 17) (ci 0)), o 5 (.mov (.t 18))])
  (.seq (.reg [o 19 (.mov (.t 5)), o 20 (.iaddra 256 1 (.c (.glob g_unicode_utf8_first)) (.t 19)), o 21 (.load false 1 (.t 20)), o 6 (.mov (.t 21))])
  (.seq (.seq (.reg [o 22 (.mov (.t 6)), o 23 (.bin .geq (.t 22) (.c (.int .u8 240)))])
  (.cond (.t 23) (.seq (.reg [o 24 (.mov (.t 6)), o 25 (.conv .i32 (.t 24)), o 26 (.shf .shl (.t 25) (.c (.int .u64 31))), o 27 (.shf .shr (.t 26) (.c (.int .u64 31))), o 7 (.mov (.t 27))])
    (.seq (.reg [o 28 (.mov (.t 0)), o 29 (.idxs (.t 28) (ci 0)), o 30 (.conv .i32 (.t 29)), o 31 (.mov (.t 7)), o 32 (.bin .andNot (.t 30) (.t 31)), o 33 (.mov (.t 7)), o 34 (.bin .and (.c (.int .i32 65533)) (.t 33)), o 35 (.bin .or (.t 32) (.t 34)), o 2 (.mov (.t 35)), o 3 (.mov (ci 1))])
    .ret)) .skip))
  (.seq (.reg [o 36 (.mov (.t 6)), o 37 (.bin .and (.t 36) (.c (.int .u8 7))), o 38 (.conv .i64 (.t 37)), o 8 (.mov (.t 38))])
  (.seq (.reg [o 39 (.mov (.t 6)), o 40 (.shf .shr (.t 39) (.c (.int .u64 4))), o 41 (.iaddra 16 2 (.c (.glob g_unicode_utf8_acceptRanges)) (.t 40)), o 42 (.load true 2 (.t 41)), o 9 (.alloc [(.int .u8 0), (.int .u8 0)] none), u (.store 2 (.t 9) (.t 42))])
  (.seq (.seq (.reg [o 43 (.mov (.t 4)), o 44 (.mov (.t 8)), o 45 (.bin .lss (.t 43) (.t 44))])
  (.cond (.t 45) (.seq (.reg [o 2 (.mov (.c (.int .i32 65533))), o 3 (.mov (ci 1))])
    .ret) .skip))
  (.seq (.reg [o 46 (.mov (.t 0)), o 47 (.idxs (.t 46) (ci 1)), o 10 (.mov (.t 47))])
  (.seq (.seq (.reg [o 48 (.mov (.t 10)), o 49 (.faddr 0 (.t 9)), o 50 (.load false 1 (.t 49)), o 51 (.bin .lss (.t 48) (.t 50)), o 52 (.mov (.t 51)), gf 52 (some 53) (.faddr 1 (.t 9)), gf 52 (some 54) (.load false 1 (.t 53)), gf 52 (some 55) (.mov (.t 10)), gf 52 (some 56) (.bin .lss (.t 54) (.t 55)), o 57 (.pick (.t 52) (.c (.bool true)) (.t 56))])
  (.cond (.t 57) (.seq (.reg [o 2 (.mov (.c (.int .i32 65533))), o 3 (.mov (ci 1))])
    .ret) .skip))
  (.seq (.seq (.reg [o 58 (.mov (.t 8)), o 59 (.bin .leq (.t 58) (ci 2))])
  (.cond (.t 59) (.seq (.reg [o 60 (.mov (.t 5)), o 61 (.bin .and (.t 60) (.c (.int .u8 31))), o 62 (.conv .i32 (.t 61)), o 63 (.shf .shl (.t 62) (.c (.int .u64 6))), o 64 (.mov (.t 10)), o 65 (.bin .and (.t 64) (.c (.int .u8 63))), o 66 (.conv .i32 (.t 65)), o 67 (.bin .or (.t 63) (.t 66)), o 2 (.mov (.t 67)), o 3 (.mov (ci 2))])
    .ret) .skip))
  (.seq (.reg [o 68 (.mov (.t 0)), o 69 (.idxs (.t 68) (ci 2)), o 11 (.mov (.t 69))])
  (.seq (.seq (.reg [o 70 (.mov (.t 11)), o 71 (.bin .lss (.t 70) (.c (.int .u8 128))), o 72 (.mov (.t 71)), gf 72 (some 73) (.mov (.t 11)), gf 72 (some 74) (.bin .lss (.c (.int .u8 191)) (.t 73)), o 75 (.pick (.t 72) (.c (.bool true)) (.t 74))])
  (.cond (.t 75) (.seq (.reg [o 2 (.mov (.c (.int .i32 65533))), o 3 (.mov (ci 1))])
    .ret) .skip))
  (.seq (.seq (.reg [o 76 (.mov (.t 8)), o 77 (.bin .leq (.t 76) (ci 3))])
  (.cond (.t 77) (.seq (.reg [o 78 (.mov (.t 5)), o 79 (.bin .and (.t 78) (.c (.int .u8 15))), o 80 (.conv .i32 (.t 79)), o 81 (.shf .shl (.t 80) (.c (.int .u64 12))), o 82 (.mov (.t 10)), o 83 (.bin .and (.t 82) (.c (.int .u8 63))), o 84 (.conv .i32 (.t 83)), o 85 (.shf .shl (.t 84) (.c (.int .u64 6))), o 86 (.bin .or (.t 81) (.t 85)), o 87 (.mov (.t 11)), o 88 (.bin .and (.t 87) (.c (.int .u8 63))), o 89 (.conv .i32 (.t 88)), o 90 (.bin .or (.t 86) (.t 89)), o 2 (.mov (.t 90)), o 3 (.mov (ci 3))])
    .ret) .skip))
  (.seq (.reg [o 91 (.mov (.t 0)), o 92 (.idxs (.t 91) (ci 3)), o 12 (.mov (.t 92))])
  (.seq (.seq (.reg [o 93 (.mov (.t 12)), o 94 (.bin .lss (.t 93) (.c (.int .u8 128))), o 95 (.mov (.t 94)), gf 95 (some 96) (.mov (.t 12)), gf 95 (some 97) (.bin .lss (.c (.int .u8 191)) (.t 96)), o 98 (.pick (.t 95) (.c (.bool true)) (.t 97))])
  (.cond (.t 98) (.seq (.reg [o 2 (.mov (.c (.int .i32 65533))), o 3 (.mov (ci 1))])
    .ret) .skip))
  (.seq (.reg [o 99 (.mov (.t 5)), o 100 (.bin .and (.t 99) (.c (.int .u8 7))), o 101 (.conv .i32 (.t 100)), o 102 (.shf .shl (.t 101) (.c (.int .u64 18))), o 103 (.mov (.t 10)), o 104 (.bin .and (.t 103) (.c (.int .u8 63))), o 105 (.conv .i32 (.t 104)), o 106 (.shf .shl (.t 105) (.c (.int .u64 12))), o 107 (.bin .or (.t 102) (.t 106)), o 108 (.mov (.t 11)), o 109 (.bin .and (.t 108) (.c (.int .u8 63))), o 110 (.conv .i32 (.t 109)), o 111 (.shf .shl (.t 110) (.c (.int .u64 6))), o 112 (.bin .or (.t 107) (.t 111)), o 113 (.mov (.t 12)), o 114 (.bin .and (.t 113) (.c (.int .u8 63))), o 115 (.conv .i32 (.t 114)), o 116 (.bin .or (.t 112) (.t 115)), o 2 (.mov (.t 116)), o 3 (.mov (ci 4))])
  .ret))))))))))))))))))⟩

def l2_ibytealg_hashStr_string : PC :=
  (.seq (.seq (.reg [o 24 (.mov (.t 8)), o 25 (.bin .gtr (.t 24) (ci 0))])
  (.cond (.t 25) .skip (.exit 2)))
  (.seq (.block 3 (.seq (.seq (.reg [o 28 (.mov (.t 8)), o 29 (.bin .and (.t 28) (ci 1)), o 30 (.ne .int (.t 29) (ci 0))])
    (.cond (.t 30) (.reg [o 31 (.mov (.t 6)), o 32 (.mov (.t 7)), o 33 (.bin .mul (.t 31) (.t 32)), o 6 (.mov (.t 33))]) .skip))
    (.reg [o 34 (.mov (.t 7)), o 35 (.mov (.t 7)), o 36 (.bin .mul (.t 34) (.t 35)), o 7 (.mov (.t 36))])))
  (.reg [o 26 (.mov (.t 8)), o 27 (.shf .shr (.t 26) (.c (.int .u64 1))), o 8 (.mov (.t 27))])))
def l1_ibytealg_hashStr_string : PC :=
  (.seq (.seq (.reg [o 9 (.mov (.t 5)), o 10 (.mov (.t 0)), o 11 (.len .str (.t 10)), o 12 (.bin .lss (.t 9) (.t 11))])
  (.cond (.t 12) .skip (.exit 0)))
  (.seq (.block 1 (.reg [o 15 (.mov (.t 4)), o 16 (.bin .mul (.t 15) (.c (.int .u32 16777619))), o 17 (.mov (.t 0)), o 18 (.mov (.t 5)), o 19 (.idxs (.t 17) (.t 18)), o 20 (.conv .u32 (.t 19)), o 21 (.bin .add (.t 16) (.t 20)), o 4 (.mov (.t 21))]))
  (.reg [o 13 (.mov (.t 5)), o 14 (.bin .add (.t 13) (ci 1)), o 5 (.mov (.t 14))])))
def pf_ibytealg_hashStr_string : PF := ⟨39, [.t 2, .t 3],
  (.seq (.reg [o 2 (.mov (.c (.int .u32 0))), o 3 (.mov (.c (.int .u32 0)))])
  (.seq (.reg [o 4 (.mov (.c (.int .u32 0)))])
  (.seq (.seq (.reg [o 5 (.mov (ci 0))])
  (.block 0 (.loop l1_ibytealg_hashStr_string)))
  (.seq (.reg [o 6 (.mov (.c (.int .u32 1))), o 7 (.mov (.c (.int .u32 16777619)))])
  (.seq (.seq (.reg [o 22 (.mov (.t 0)), o 23 (.len .str (.t 22)), o 8 (.mov (.t 23))])
  (.block 2 (.loop l2_ibytealg_hashStr_string)))
  (.seq (.reg [o 37 (.mov (.t 4)), o 38 (.mov (.t 6)), o 2 (.mov (.t 37)), o 3 (.mov (.t 38))])
  .ret))))))⟩

def l1_forest_above_1 : PC :=
  (.block 1 (.seq (.reg [o 7 (.load true 480 (.t 1)), o 8 (.load false 1 (.t 2)), o 9 (.call (cf fn_table_Table_Get) [(.t 7), (.t 8)]), o 6 (.mov (.t 9)), o 10 (.ext (.t 6) 0), o 11 (.ext (.t 6) 1), o 4 (.alloc [(.int .u32 0), (.int .i64 0), .nils, (.int .i64 0), (.int .u32 0), (.int .u32 0), (.int .u32 0), (.int .u32 0), (.int .u32 0), (.int .u32 0), (.int .u32 0), (.int .u32 0)] none), u (.store 12 (.t 4) (.t 10)), o 5 (.mov (.t 11))])
    (.seq (.seq (.reg [o 12 (.mov (.t 5)), o 13 (.ne .int (.t 12) (ci 0)), o 14 (.mov (.t 13)), gf 14 (some 15) (.faddr 0 (.t 4)), gf 14 (some 16) (.load false 1 (.t 15)), gf 14 (some 17) (.eq .int (.t 16) (.c (.int .u32 0))), o 18 (.pick (.t 14) (.c (.bool true)) (.t 17)), o 19 (.mov (.t 18)), gf 19 (some 20) (.mov (.t 0)), gf 19 (some 21) (.faddr 0 (.t 4)), gf 19 (some 22) (.load false 1 (.t 21)), gf 19 (some 23) (.call (.t 20) [(.t 22)]), gf 19 (some 24) (.un .not (.t 23)), o 25 (.pick (.t 19) (.c (.bool true)) (.t 24))])
    (.cond (.t 25) .ret .skip))
    (.reg [o 26 (.faddr 0 (.t 4)), o 27 (.load false 1 (.t 26)), u (.store 1 (.t 2) (.t 27))]))))
def pf_forest_above_1 : PF := ⟨28, [],
  (.block 0 (.loop l1_forest_above_1))⟩

def pf_token_Tokens_right_1 : PF := ⟨26, [.t 5],
  (.seq (.reg [o 4 (.box (.t 0) none), o 5 (.mov (.c (.bool false)))])
  (.seq (.reg [o 7 (.faddr 0 (.t 4)), o 8 (.load false 1 (.t 7)), o 9 (.load false 1 (.t 1)), o 10 (.eq .int (.t 8) (.t 9)), o 11 (.mov (.t 10)), gt 11 (some 12) (.faddr 4 (.t 4)), gt 11 (some 13) (.load false 1 (.t 12)), gt 11 (some 14) (.load false 1 (.t 2)), gt 11 (some 15) (.eq .int (.t 13) (.t 14)), o 16 (.pick (.t 11) (.t 15) (.c (.bool false))), o 6 (.mov (.t 16))])
  (.seq (.reg [o 17 (.load false 1 (.t 3)), o 18 (.mov (.t 17)), gf 18 (some 19) (.mov (.t 6)), gf 18 (some 20) (.mov (.t 19)), gt 20 (some 21) (.faddr 3 (.t 4)), gt 20 (some 22) (.load false 1 (.t 21)), gf 18 (some 23) (.pick (.t 20) (.t 22) (.c (.bool false))), o 24 (.pick (.t 18) (.c (.bool true)) (.t 23)), u (.store 1 (.t 3) (.t 24))])
  (.seq (.reg [o 25 (.mov (.t 6)), o 5 (.mov (.t 25))])
  .ret))))⟩

def pf_istrconv_FormatInt : PF := ⟨54, [.t 4],
  (.seq (.reg [o 4 (.mov (.c (S [])))])
  (.seq (.seq (.reg [o 10 (.mov (.t 1)), o 11 (.eq .int (.t 10) (ci 10))])
  (.cond (.t 11) (.seq (.seq (.reg [o 12 (.mov (.t 0)), o 13 (.bin .leq (ci 0) (.t 12)), o 14 (.mov (.t 13)), gt 14 (some 15) (.mov (.t 0)), gt 14 (some 16) (.bin .lss (.t 15) (ci 100)), o 17 (.pick (.t 14) (.t 16) (.c (.bool false)))])
    (.cond (.t 17) (.seq (.reg [o 18 (.mov (.t 0)), o 19 (.call (cf fn_istrconv_small) [(.t 18)]), o 4 (.mov (.t 19))])
      .ret) .skip))
    (.seq (.reg [o 5 (.alloc z24_72f9 none)])
    (.seq (.reg [o 20 (.mov (.t 0)), o 21 (.conv .u64 (.t 20)), o 6 (.mov (.t 21))])
    (.seq (.seq (.reg [o 22 (.mov (.t 0)), o 23 (.bin .lss (.t 22) (ci 0))])
    (.cond (.t 23) (.reg [o 24 (.mov (.t 6)), o 25 (.un .neg (.t 24)), o 6 (.mov (.t 25))]) .skip))
    (.seq (.reg [o 26 (.mov (.t 6)), o 27 (.call (cf fn_istrconv_numDigits) [(.t 26)]), o 7 (.mov (.t 27))])
    (.seq (.reg [o 28 (.mov (.t 7)), o 29 (.bin .add (ci 1) (.t 28)), o 30 (.slarr 24 1 (.t 5) (some (ci 1)) (some (.t 29))), o 31 (.mov (.t 6)), o 32 (.call (cf fn_istrconv_formatBase10) [(.t 30), (.t 31)])])
    (.seq (.seq (.reg [o 33 (.mov (.t 0)), o 34 (.bin .lss (.t 33) (ci 0))])
    (.cond (.t 34) (.seq (.reg [o 35 (.iaddra 24 1 (.t 5) (ci 0)), u (.store 1 (.t 35) (.c (.int .u8 45)))])
      (.seq (.reg [o 36 (.mov (.t 7)), o 37 (.bin .add (ci 1) (.t 36)), o 38 (.slarr 24 1 (.t 5) none (some (.t 37))), o 39 (.b2s (.t 38)), o 4 (.mov (.t 39))])
      .ret)) .skip))
    (.seq (.reg [o 40 (.mov (.t 7)), o 41 (.bin .add (ci 1) (.t 40)), o 42 (.slarr 24 1 (.t 5) (some (ci 1)) (some (.t 41))), o 43 (.b2s (.t 42)), o 4 (.mov (.t 43))])
    .ret)))))))) .skip))
  (.seq (.reg [o 45 (.mov (.t 0)), o 46 (.conv .u64 (.t 45)), o 47 (.mov (.t 1)), o 48 (.mov (.t 0)), o 49 (.bin .lss (.t 48) (ci 0)), o 50 (.call (cf fn_istrconv_formatBits) [(.c .nils), (.t 46), (.t 47), (.t 49), (.c (.bool false))]), o 44 (.mov (.t 50)), o 51 (.ext (.t 44) 0), o 52 (.ext (.t 44) 1), o 8 (.mov (.t 51)), o 9 (.mov (.t 52))])
  (.seq (.reg [o 53 (.mov (.t 9)), o 4 (.mov (.t 53))])
  .ret))))⟩

def pf_istrconv_small : PF := ⟨15, [.t 2],
  (.seq (.reg [o 2 (.mov (.c (S [])))])
  (.seq (.seq (.reg [o 3 (.mov (.t 0)), o 4 (.bin .lss (.t 3) (ci 10))])
  (.cond (.t 4) (.seq (.reg [o 5 (.mov (.t 0)), o 6 (.mov (.t 0)), o 7 (.bin .add (.t 6) (ci 1)), o 8 (.slstr (.c (S str_fdb5537d)) (some (.t 5)) (some (.t 7))), o 2 (.mov (.t 8))])
    .ret) .skip))
  (.seq (.reg [o 9 (.mov (.t 0)), o 10 (.bin .mul (.t 9) (ci 2)), o 11 (.mov (.t 0)), o 12 (.bin .mul (.t 11) (ci 2)), o 13 (.bin .add (.t 12) (ci 2)), o 14 (.slstr (.c (S str_87730c3d)) (some (.t 10)) (some (.t 13))), o 2 (.mov (.t 14))])
  .ret)))⟩

def pf_istrconv_numDigits : PF := ⟨15, [.t 2],
  (.seq (.reg [o 2 (.mov (ci 0))])
  (.seq (.reg [o 4 (.mov (.t 0)), o 5 (.call (cf fn_math_bits_Len64) [(.t 4)]), o 6 (.call (cf fn_istrconv_log10Pow2) [(.t 5)]), o 3 (.mov (.t 6))])
  (.seq (.reg [o 7 (.mov (.t 3)), o 8 (.mov (.t 0)), o 9 (.mov (.t 3)), o 10 (.iaddra 20 1 (.c (.glob g_istrconv_uint64pow10)) (.t 9)), o 11 (.load false 1 (.t 10)), o 12 (.bin .geq (.t 8) (.t 11)), o 13 (.call (cf fn_istrconv_bool2_int) [(.t 12)]), o 14 (.bin .add (.t 7) (.t 13)), o 2 (.mov (.t 14))])
  .ret)))⟩

def l1_istrconv_formatBase10 : PC :=
  (.seq (.seq (.reg [o 19 (.mov (.t 4)), o 20 (.bin .geq (.t 19) (ci 8))])
  (.cond (.t 20) .skip (.exit 0)))
  (.block 1 (.seq (.reg [o 21 (.mov (.t 1)), o 22 (.bin .rem (.t 21) (.c (.int .u64 100000000))), o 23 (.conv .u32 (.t 22)), o 5 (.mov (.t 23))])
    (.seq (.reg [o 24 (.mov (.t 1)), o 25 (.bin .quo (.t 24) (.c (.int .u64 100000000))), o 1 (.mov (.t 25))])
    (.seq (.reg [o 26 (.mov (.t 5)), o 27 (.bin .quo (.t 26) (.c (.int .u32 10000))), o 28 (.mov (.t 5)), o 29 (.bin .rem (.t 28) (.c (.int .u32 10000))), o 6 (.mov (.t 27)), o 7 (.mov (.t 29))])
    (.seq (.reg [o 30 (.mov (.t 7)), o 31 (.bin .quo (.t 30) (.c (.int .u32 100))), o 32 (.bin .mul (.t 31) (.c (.int .u32 2))), o 33 (.mov (.t 7)), o 34 (.bin .rem (.t 33) (.c (.int .u32 100))), o 35 (.bin .mul (.t 34) (.c (.int .u32 2))), o 8 (.mov (.t 32)), o 9 (.mov (.t 35))])
    (.seq (.reg [o 36 (.mov (.t 6)), o 37 (.bin .quo (.t 36) (.c (.int .u32 100))), o 38 (.bin .mul (.t 37) (.c (.int .u32 2))), o 39 (.mov (.t 6)), o 40 (.bin .rem (.t 39) (.c (.int .u32 100))), o 41 (.bin .mul (.t 40) (.c (.int .u32 2))), o 10 (.mov (.t 38)), o 11 (.mov (.t 41))])
    (.seq (.dreg [(o 42 (.mov (.t 0)), []), (o 43 (.mov (.t 4)), []), (o 44 (.bin .sub (.t 43) (ci 1)), []), (o 45 (.mov (.t 0)), []), (o 46 (.mov (.t 4)), []), (o 47 (.bin .sub (.t 46) (ci 2)), []), (o 48 (.mov (.t 9)), []), (o 49 (.bin .add (.t 48) (.c (.int .u32 1))), []), (o 50 (.idxs (.c (S str_87730c3d)) (.t 49)), []), (o 51 (.mov (.t 9)), []), (o 52 (.idxs (.c (S str_87730c3d)) (.t 51)), []), (o 53 (.iaddrs 1 (.t 42) (.t 44)), []), (u (.store 1 (.t 53) (.t 50)), []), (o 54 (.iaddrs 1 (.t 45) (.t 47)), []), (u (.store 1 (.t 54) (.t 52)), [])])
    (.seq (.dreg [(o 55 (.mov (.t 0)), []), (o 56 (.mov (.t 4)), []), (o 57 (.bin .sub (.t 56) (ci 3)), []), (o 58 (.mov (.t 0)), []), (o 59 (.mov (.t 4)), []), (o 60 (.bin .sub (.t 59) (ci 4)), []), (o 61 (.mov (.t 8)), []), (o 62 (.bin .add (.t 61) (.c (.int .u32 1))), []), (o 63 (.idxs (.c (S str_87730c3d)) (.t 62)), []), (o 64 (.mov (.t 8)), []), (o 65 (.idxs (.c (S str_87730c3d)) (.t 64)), []), (o 66 (.iaddrs 1 (.t 55) (.t 57)), []), (u (.store 1 (.t 66) (.t 63)), []), (o 67 (.iaddrs 1 (.t 58) (.t 60)), []), (u (.store 1 (.t 67) (.t 65)), [])])
    (.seq (.dreg [(o 68 (.mov (.t 0)), []), (o 69 (.mov (.t 4)), []), (o 70 (.bin .sub (.t 69) (ci 5)), []), (o 71 (.mov (.t 0)), []), (o 72 (.mov (.t 4)), []), (o 73 (.bin .sub (.t 72) (ci 6)), []), (o 74 (.mov (.t 11)), []), (o 75 (.bin .add (.t 74) (.c (.int .u32 1))), []), (o 76 (.idxs (.c (S str_87730c3d)) (.t 75)), []), (o 77 (.mov (.t 11)), []), (o 78 (.idxs (.c (S str_87730c3d)) (.t 77)), []), (o 79 (.iaddrs 1 (.t 68) (.t 70)), []), (u (.store 1 (.t 79) (.t 76)), []), (o 80 (.iaddrs 1 (.t 71) (.t 73)), []), (u (.store 1 (.t 80) (.t 78)), [])])
    (.seq (.dreg [(o 81 (.mov (.t 0)), []), (o 82 (.mov (.t 4)), []), (o 83 (.bin .sub (.t 82) (ci 7)), []), (o 84 (.mov (.t 0)), []), (o 85 (.mov (.t 4)), []), (o 86 (.bin .sub (.t 85) (ci 8)), []), (o 87 (.mov (.t 10)), []), (o 88 (.bin .add (.t 87) (.c (.int .u32 1))), []), (o 89 (.idxs (.c (S str_87730c3d)) (.t 88)), []), (o 90 (.mov (.t 10)), []), (o 91 (.idxs (.c (S str_87730c3d)) (.t 90)), []), (o 92 (.iaddrs 1 (.t 81) (.t 83)), []), (u (.store 1 (.t 92) (.t 89)), []), (o 93 (.iaddrs 1 (.t 84) (.t 86)), []), (u (.store 1 (.t 93) (.t 91)), [])])
    (.reg [o 94 (.mov (.t 4)), o 95 (.bin .sub (.t 94) (ci 8)), o 4 (.mov (.t 95))]))))))))))))
def pf_istrconv_formatBase10 : PF := ⟨167, [],
  (.seq (.reg [o 17 (.mov (.t 0)), o 18 (.len .sl (.t 17)), o 4 (.mov (.t 18))])
  (.seq (.block 0 (.loop l1_istrconv_formatBase10))
  (.seq (.reg [o 96 (.mov (.t 1)), o 97 (.conv .u32 (.t 96)), o 12 (.mov (.t 97))])
  (.seq (.seq (.reg [o 98 (.mov (.t 4)), o 99 (.bin .geq (.t 98) (ci 4))])
  (.cond (.t 99) (.seq (.reg [o 100 (.mov (.t 12)), o 101 (.bin .rem (.t 100) (.c (.int .u32 10000))), o 13 (.mov (.t 101))])
    (.seq (.reg [o 102 (.mov (.t 12)), o 103 (.bin .quo (.t 102) (.c (.int .u32 10000))), o 12 (.mov (.t 103))])
    (.seq (.reg [o 104 (.mov (.t 13)), o 105 (.bin .quo (.t 104) (.c (.int .u32 100))), o 106 (.bin .mul (.t 105) (.c (.int .u32 2))), o 107 (.mov (.t 13)), o 108 (.bin .rem (.t 107) (.c (.int .u32 100))), o 109 (.bin .mul (.t 108) (.c (.int .u32 2))), o 14 (.mov (.t 106)), o 15 (.mov (.t 109))])
    (.seq (.dreg [(o 110 (.mov (.t 0)), []), (o 111 (.mov (.t 4)), []), (o 112 (.bin .sub (.t 111) (ci 1)), []), (o 113 (.mov (.t 0)), []), (o 114 (.mov (.t 4)), []), (o 115 (.bin .sub (.t 114) (ci 2)), []), (o 116 (.mov (.t 15)), []), (o 117 (.bin .add (.t 116) (.c (.int .u32 1))), []), (o 118 (.idxs (.c (S str_87730c3d)) (.t 117)), []), (o 119 (.mov (.t 15)), []), (o 120 (.idxs (.c (S str_87730c3d)) (.t 119)), []), (o 121 (.iaddrs 1 (.t 110) (.t 112)), []), (u (.store 1 (.t 121) (.t 118)), []), (o 122 (.iaddrs 1 (.t 113) (.t 115)), []), (u (.store 1 (.t 122) (.t 120)), [])])
    (.seq (.dreg [(o 123 (.mov (.t 0)), []), (o 124 (.mov (.t 4)), []), (o 125 (.bin .sub (.t 124) (ci 3)), []), (o 126 (.mov (.t 0)), []), (o 127 (.mov (.t 4)), []), (o 128 (.bin .sub (.t 127) (ci 4)), []), (o 129 (.mov (.t 14)), []), (o 130 (.bin .add (.t 129) (.c (.int .u32 1))), []), (o 131 (.idxs (.c (S str_87730c3d)) (.t 130)), []), (o 132 (.mov (.t 14)), []), (o 133 (.idxs (.c (S str_87730c3d)) (.t 132)), []), (o 134 (.iaddrs 1 (.t 123) (.t 125)), []), (u (.store 1 (.t 134) (.t 131)), []), (o 135 (.iaddrs 1 (.t 126) (.t 128)), []), (u (.store 1 (.t 135) (.t 133)), [])])
    (.reg [o 136 (.mov (.t 4)), o 137 (.bin .sub (.t 136) (ci 4)), o 4 (.mov (.t 137))])))))) .skip))
  (.seq (.seq (.reg [o 138 (.mov (.t 4)), o 139 (.bin .geq (.t 138) (ci 2))])
  (.cond (.t 139) (.seq (.reg [o 140 (.mov (.t 12)), o 141 (.bin .rem (.t 140) (.c (.int .u32 100))), o 142 (.bin .mul (.t 141) (.c (.int .u32 2))), o 16 (.mov (.t 142))])
    (.seq (.reg [o 143 (.mov (.t 12)), o 144 (.bin .quo (.t 143) (.c (.int .u32 100))), o 12 (.mov (.t 144))])
    (.seq (.dreg [(o 145 (.mov (.t 0)), []), (o 146 (.mov (.t 4)), []), (o 147 (.bin .sub (.t 146) (ci 1)), []), (o 148 (.mov (.t 0)), []), (o 149 (.mov (.t 4)), []), (o 150 (.bin .sub (.t 149) (ci 2)), []), (o 151 (.mov (.t 16)), []), (o 152 (.bin .add (.t 151) (.c (.int .u32 1))), []), (o 153 (.idxs (.c (S str_87730c3d)) (.t 152)), []), (o 154 (.mov (.t 16)), []), (o 155 (.idxs (.c (S str_87730c3d)) (.t 154)), []), (o 156 (.iaddrs 1 (.t 145) (.t 147)), []), (u (.store 1 (.t 156) (.t 153)), []), (o 157 (.iaddrs 1 (.t 148) (.t 150)), []), (u (.store 1 (.t 157) (.t 155)), [])])
    (.reg [o 158 (.mov (.t 4)), o 159 (.bin .sub (.t 158) (ci 2)), o 4 (.mov (.t 159))])))) .skip))
  (.seq (.reg [o 160 (.mov (.t 4)), o 161 (.bin .gtr (.t 160) (ci 0))])
  (.cond (.t 161) (.reg [o 162 (.mov (.t 0)), o 163 (.mov (.t 12)), o 164 (.bin .add (.c (.int .u32 48)) (.t 163)), o 165 (.conv .u8 (.t 164)), o 166 (.iaddrs 1 (.t 162) (ci 0)), u (.store 1 (.t 166) (.t 165))]) .skip)))))))⟩

def l2_istrconv_formatBits : PC :=
  (.seq (.seq (.reg [o 66 (.mov (.t 1)), o 67 (.mov (.t 17)), o 68 (.bin .geq (.t 66) (.t 67))])
  (.cond (.t 68) .skip (.exit 2)))
  (.block 3 (.seq (.reg [o 69 (.mov (.t 13)), o 70 (.bin .sub (.t 69) (ci 1)), o 13 (.mov (.t 70))])
    (.seq (.reg [o 71 (.mov (.t 1)), o 72 (.mov (.t 17)), o 73 (.bin .quo (.t 71) (.t 72)), o 18 (.mov (.t 73))])
    (.seq (.reg [o 74 (.mov (.t 13)), o 75 (.mov (.t 1)), o 76 (.mov (.t 18)), o 77 (.mov (.t 17)), o 78 (.bin .mul (.t 76) (.t 77)), o 79 (.bin .sub (.t 75) (.t 78)), o 80 (.idxs (.c (S str_fdb5537d)) (.t 79)), o 81 (.iaddra 65 1 (.t 12) (.t 74)), u (.store 1 (.t 81) (.t 80))])
    (.reg [o 82 (.mov (.t 18)), o 1 (.mov (.t 82))]))))))
def l1_istrconv_formatBits : PC :=
  (.seq (.seq (.reg [o 44 (.mov (.t 1)), o 45 (.mov (.t 15)), o 46 (.bin .geq (.t 44) (.t 45))])
  (.cond (.t 46) .skip (.exit 0)))
  (.block 1 (.seq (.reg [o 47 (.mov (.t 13)), o 48 (.bin .sub (.t 47) (ci 1)), o 13 (.mov (.t 48))])
    (.seq (.reg [o 49 (.mov (.t 13)), o 50 (.mov (.t 1)), o 51 (.mov (.t 16)), o 52 (.bin .and (.t 50) (.t 51)), o 53 (.idxs (.c (S str_fdb5537d)) (.t 52)), o 54 (.iaddra 65 1 (.t 12) (.t 49)), u (.store 1 (.t 54) (.t 53))])
    (.reg [o 55 (.mov (.t 1)), o 56 (.mov (.t 14)), o 57 (.shf .shr (.t 55) (.t 56)), o 1 (.mov (.t 57))])))))
def pf_istrconv_formatBits : PF := ⟨102, [.t 10, .t 11],
  (.seq (.reg [o 10 (.mov (.c .nils)), o 11 (.mov (.c (S [])))])
  (.seq (.seq (.reg [o 19 (.mov (.t 2)), o 20 (.bin .lss (.t 19) (ci 2)), o 21 (.mov (.t 20)), gf 21 (some 22) (.mov (.t 2)), gf 21 (some 23) (.eq .int (.t 22) (ci 10)), o 24 (.pick (.t 21) (.c (.bool true)) (.t 23)), o 25 (.mov (.t 24)), gf 25 (some 26) (.mov (.t 2)), gf 25 (some 27) (.bin .gtr (.t 26) (ci 36)), o 28 (.pick (.t 25) (.c (.bool true)) (.t 27))])
  (.cond (.t 28) (.reg [o 29 (.mki ty_string (.c (S str_e8a41dda))), u (.panic (.t 29))]) .skip))
  (.seq (.reg [o 12 (.alloc (reps 65 (.int .u8 0)) none)])
  (.seq (.reg [o 13 (.mov (ci 65))])
  (.seq (.seq (.reg [o 30 (.mov (.t 3))])
  (.cond (.t 30) (.reg [o 31 (.mov (.t 1)), o 32 (.un .neg (.t 31)), o 1 (.mov (.t 32))]) .skip))
  (.seq (.seq (.reg [o 33 (.mov (.t 2)), o 34 (.call (cf fn_istrconv_isPowerOfTwo) [(.t 33)])])
  (.cond (.t 34) (.seq (.reg [o 35 (.mov (.t 2)), o 36 (.conv .u64 (.t 35)), o 37 (.call (cf fn_math_bits_TrailingZeros) [(.t 36)]), o 38 (.conv .u64 (.t 37)), o 14 (.mov (.t 38))])
    (.seq (.reg [o 39 (.mov (.t 2)), o 40 (.conv .u64 (.t 39)), o 15 (.mov (.t 40))])
    (.seq (.reg [o 41 (.mov (.t 2)), o 42 (.conv .u64 (.t 41)), o 43 (.bin .sub (.t 42) (.c (.int .u64 1))), o 16 (.mov (.t 43))])
    (.seq (.block 0 (.loop l1_istrconv_formatBits))
    (.seq (.reg [o 58 (.mov (.t 13)), o 59 (.bin .sub (.t 58) (ci 1)), o 13 (.mov (.t 59))])
    (.reg [o 60 (.mov (.t 13)), o 61 (.mov (.t 1)), o 62 (.idxs (.c (S str_fdb5537d)) (.t 61)), o 63 (.iaddra 65 1 (.t 12) (.t 60)), u (.store 1 (.t 63) (.t 62))])))))) (.seq (.reg [o 64 (.mov (.t 2)), o 65 (.conv .u64 (.t 64)), o 17 (.mov (.t 65))])
    (.seq (.block 2 (.loop l2_istrconv_formatBits))
    (.seq (.reg [o 83 (.mov (.t 13)), o 84 (.bin .sub (.t 83) (ci 1)), o 13 (.mov (.t 84))])
    (.reg [o 85 (.mov (.t 13)), o 86 (.mov (.t 1)), o 87 (.idxs (.c (S str_fdb5537d)) (.t 86)), o 88 (.iaddra 65 1 (.t 12) (.t 85)), u (.store 1 (.t 88) (.t 87))]))))))
  (.seq (.seq (.reg [o 89 (.mov (.t 3))])
  (.cond (.t 89) (.seq (.reg [o 90 (.mov (.t 13)), o 91 (.bin .sub (.t 90) (ci 1)), o 13 (.mov (.t 91))])
    (.reg [o 92 (.mov (.t 13)), o 93 (.iaddra 65 1 (.t 12) (.t 92)), u (.store 1 (.t 93) (.c (.int .u8 45)))])) .skip))
  (.seq (.seq (.reg [o 94 (.mov (.t 4))])
  (.cond (.t 94) (.seq (.reg [o 95 (.mov (.t 0)), o 96 (.mov (.t 13)), o 97 (.slarr 65 1 (.t 12) (some (.t 96)) none), o 98 (.append ty_uint8 1 1 (.t 95) (.t 97)), o 10 (.mov (.t 98))])
    .ret) .skip))
  (.seq (.reg [o 99 (.mov (.t 13)), o 100 (.slarr 65 1 (.t 12) (some (.t 99)) none), o 101 (.b2s (.t 100)), o 11 (.mov (.t 101))])
  .ret)))))))))⟩

def pf_istrconv_log10Pow2 : PF := ⟨6, [.t 2],
  (.seq (.reg [o 2 (.mov (ci 0))])
  (.seq (.reg [o 3 (.mov (.t 0)), o 4 (.bin .mul (.t 3) (ci 78913)), o 5 (.shf .shr (.t 4) (.c (.int .u64 18))), o 2 (.mov (.t 5))])
  .ret))⟩

def pf_math_bits_Len64 : PF := ⟨25, [.t 2],
  (.seq (.reg [o 2 (.mov (ci 0))])
  (.seq (.seq (.reg [o 3 (.mov (.t 0)), o 4 (.bin .geq (.t 3) (.c (.int .u64 4294967296)))])
  (.cond (.t 4) (.seq (.reg [o 5 (.mov (.t 0)), o 6 (.shf .shr (.t 5) (.c (.int .u64 32))), o 0 (.mov (.t 6))])
    (.reg [o 2 (.mov (ci 32))])) .skip))
  (.seq (.seq (.reg [o 7 (.mov (.t 0)), o 8 (.bin .geq (.t 7) (.c (.int .u64 65536)))])
  (.cond (.t 8) (.seq (.reg [o 9 (.mov (.t 0)), o 10 (.shf .shr (.t 9) (.c (.int .u64 16))), o 0 (.mov (.t 10))])
    (.reg [o 11 (.mov (.t 2)), o 12 (.bin .add (.t 11) (ci 16)), o 2 (.mov (.t 12))])) .skip))
  (.seq (.seq (.reg [o 13 (.mov (.t 0)), o 14 (.bin .geq (.t 13) (.c (.int .u64 256)))])
  (.cond (.t 14) (.seq (.reg [o 15 (.mov (.t 0)), o 16 (.shf .shr (.t 15) (.c (.int .u64 8))), o 0 (.mov (.t 16))])
    (.reg [o 17 (.mov (.t 2)), o 18 (.bin .add (.t 17) (ci 8)), o 2 (.mov (.t 18))])) .skip))
  (.seq (.reg [o 19 (.mov (.t 2)), o 20 (.mov (.t 0)), o 21 (.conv .u8 (.t 20)), o 22 (.idxs (.c (S str_11c1601c)) (.t 21)), o 23 (.conv .i64 (.t 22)), o 24 (.bin .add (.t 19) (.t 23)), o 2 (.mov (.t 24))])
  .ret)))))⟩

def pf_istrconv_bool2_int : PF := ⟨4, [.t 2],
  (.seq (.reg [o 2 (.mov (ci 0))])
  (.seq (.seq (.reg [o 3 (.mov (.t 0))])
  (.cond (.t 3) (.seq (.reg [o 2 (.mov (ci 1))])
    .ret) .skip))
  (.seq (.reg [o 2 (.mov (ci 0))])
  .ret)))⟩

def pf_istrconv_isPowerOfTwo : PF := ⟨8, [.t 2],
  (.seq (.reg [o 2 (.mov (.c (.bool false)))])
  (.seq (.reg [o 3 (.mov (.t 0)), o 4 (.mov (.t 0)), o 5 (.bin .sub (.t 4) (ci 1)), o 6 (.bin .and (.t 3) (.t 5)), o 7 (.eq .int (.t 6) (ci 0)), o 2 (.mov (.t 7))])
  .ret))⟩

def pf_math_bits_TrailingZeros : PF := ⟨8, [.t 2],
  (.seq (.reg [o 2 (.mov (ci 0))])
  (.seq (.cond (.c (.bool false)) (.seq (.reg [o 3 (.mov (.t 0)), o 4 (.conv .u32 (.t 3)), o 5 (.call (cf fn_math_bits_TrailingZeros32) [(.t 4)]), o 2 (.mov (.t 5))])
    .ret) .skip)
  (.seq (.reg [o 6 (.mov (.t 0)), o 7 (.call (cf fn_math_bits_TrailingZeros64) [(.t 6)]), o 2 (.mov (.t 7))])
  .ret)))⟩

def pf_math_bits_TrailingZeros32 : PF := ⟨14, [.t 2],
  (.seq (.reg [o 2 (.mov (ci 0))])
  (.seq (.seq (.reg [o 3 (.mov (.t 0)), o 4 (.eq .int (.t 3) (.c (.int .u32 0)))])
  (.cond (.t 4) (.seq (.reg [o 2 (.mov (ci 32))])
    .ret) .skip))
  (.seq (.reg [o 5 (.mov (.t 0)), o 6 (.mov (.t 0)), o 7 (.un .neg (.t 6)), o 8 (.bin .and (.t 5) (.t 7)), o 9 (.bin .mul (.t 8) (.c (.int .u32 125613361))), o 10 (.shf .shr (.t 9) (.c (.int .u64 27))), o 11 (.iaddra 32 1 (.c (.glob g_math_bits_deBruijn32tab)) (.t 10)), o 12 (.load false 1 (.t 11)), o 13 (.conv .i64 (.t 12)), o 2 (.mov (.t 13))])
  .ret)))⟩

def pf_math_bits_TrailingZeros64 : PF := ⟨14, [.t 2],
  (.seq (.reg [o 2 (.mov (ci 0))])
  (.seq (.seq (.reg [o 3 (.mov (.t 0)), o 4 (.eq .int (.t 3) (.c (.int .u64 0)))])
  (.cond (.t 4) (.seq (.reg [o 2 (.mov (ci 64))])
    .ret) .skip))
  (.seq (.reg [o 5 (.mov (.t 0)), o 6 (.mov (.t 0)), o 7 (.un .neg (.t 6)), o 8 (.bin .and (.t 5) (.t 7)), o 9 (.bin .mul (.t 8) (.c (.int .u64 285870213051353865))), o 10 (.shf .shr (.t 9) (.c (.int .u64 58))), o 11 (.iaddra 64 1 (.c (.glob g_math_bits_deBruijn64tab)) (.t 10)), o 12 (.load false 1 (.t 11)), o 13 (.conv .i64 (.t 12)), o 2 (.mov (.t 13))])
  .ret)))⟩

def pf_access_Who_owner : PF := ⟨26, [.t 6],
  (.seq (.reg [o 3 (.box (.t 0) none), o 4 (.box (.t 1) none), o 6 (.mov (.c (.bool false)))])
  (.seq (.reg [o 10 .mkmap, o 11 (.mkf (.func fn_access_Who_owner_1) [] [(.t 3), (.t 4)]), u (.mput .int (.t 10) (.c (.int .u8 0)) (.t 11)), o 12 (.mkf (.func fn_access_Who_owner_2) [] [(.t 3), (.t 4)]), u (.mput .int (.t 10) (.c (.int .u8 1)) (.t 12)), o 13 (.mkf (.func fn_access_Who_owner_3) [] [(.t 3), (.t 4)]), u (.mput .int (.t 10) (.c (.int .u8 2)) (.t 13)), o 14 (.mov (.t 10)), o 7 (.mov (.t 14))])
  (.seq (.reg [o 16 (.mov (.t 7)), o 17 (.mov (.t 2)), o 18 (.lookup .int .nilf (.t 16) (.t 17) true), o 15 (.mov (.t 18)), o 19 (.ext (.t 15) 0), o 20 (.ext (.t 15) 1), o 8 (.mov (.t 19)), o 9 (.mov (.t 20))])
  (.seq (.reg [o 21 (.mov (.t 9)), o 22 (.mov (.t 21)), gt 22 (some 23) (.mov (.t 8)), gt 22 (some 24) (.call (.t 23) []), o 25 (.pick (.t 22) (.t 24) (.c (.bool false))), o 6 (.mov (.t 25))])
  .ret))))⟩

def pf_Pmodel_caller_new : PF := ⟨65, [.cell 2 true 3],
  (.seq (.reg [o 2 (.alloc [(.int .i64 0), (.int .u64 0), (.int .u32 0)] none)])
  (.seq (.seq (.reg [o 6 (.mov (.t 0)), o 7 (.nilck (.t 6)), o 8 (.faddr 953 (.t 7)), o 9 (.faddr 1 (.t 8)), o 10 (.load false 1 (.t 9)), o 11 (.ne .int (.t 10) (.c (.int .u32 0)))])
  (.cond (.t 11) (.reg [o 12 (.mov (.t 0)), o 13 (.mov (.t 0)), o 14 (.nilck (.t 13)), o 15 (.faddr 953 (.t 14)), o 16 (.faddr 1 (.t 15)), o 17 (.load false 1 (.t 16)), o 18 (.call (cf fn_Pmodel_caller_may) [(.t 12), (.t 17), (.c (.int .u8 1))])]) .skip))
  (.seq (.dreg [(o 20 (.mov (.t 0)), []), (o 21 (.nilck (.t 20)), []), (o 22 (.faddr 0 (.t 21)), []), (o 23 (.faddr 0 (.t 22)), []), (o 24 (.faddr 0 (.t 23)), []), (o 25 (.load true 480 (.t 24)), []), (o 26 (.mov (.t 0)), []), (o 27 (.nilck (.t 26)), []), (o 28 (.faddr 953 (.t 27)), []), (o 29 (.faddr 1 (.t 28)), []), (o 30 (.load false 1 (.t 29)), [5]), (o 31 (.mov (.t 0)), []), (o 32 (.nilck (.t 31)), []), (o 33 (.faddr 953 (.t 32)), []), (o 34 (.faddr 3 (.t 33)), []), (o 35 (.load false 1 (.t 34)), [5, 10]), (o 36 (.min [(.t 35), (.c (.int .u32 65))]), []), (o 37 (.conv .i64 (.t 36)), []), (o 38 (.call (cf fn_forest_New) [(.t 25), (.t 30), (.t 37)]), []), (o 19 (.mov (.t 38)), []), (o 39 (.ext (.t 19) 0), []), (o 40 (.ext (.t 19) 1), []), (o 41 (.ext (.t 19) 2), []), (o 3 (.alloc z480_3a0d none), [5, 10, 15, 18]), (u (.store 480 (.t 3) (.t 39)), []), (o 4 (.mov (.t 40)), []), (o 5 (.mov (.t 41)), [])])
  (.seq (.reg [o 42 (.mov (.t 5)), o 43 (.call (cf fn_model_fine) [(.t 42)])])
  (.seq (.reg [o 44 (.mov (.t 0)), o 45 (.load true 480 (.t 3)), o 46 (.nilck (.t 44)), o 47 (.faddr 0 (.t 46)), o 48 (.faddr 0 (.t 47)), o 49 (.faddr 0 (.t 48)), u (.store 480 (.t 49) (.t 45))])
  (.seq (.seq (.reg [o 50 (.mov (.t 0)), o 51 (.nilck (.t 50)), o 52 (.faddr 953 (.t 51)), o 53 (.faddr 1 (.t 52)), o 54 (.load false 1 (.t 53)), o 55 (.eq .int (.t 54) (.c (.int .u32 0)))])
  (.cond (.t 55) (.reg [o 56 (.mov (.t 0)), o 57 (.mov (.t 4)), o 58 (.mov (.t 0)), o 59 (.nilck (.t 58)), o 60 (.faddr 952 (.t 59)), o 61 (.load false 1 (.t 60)), o 62 (.call (cf fn_Pmodel_caller_owns) [(.t 56), (.t 57), (.t 61)])]) .skip))
  (.seq (.reg [o 63 (.mov (.t 4)), o 64 (.build [(.int .i64 0), (.int .u64 0), (.int .u32 0)] [(2, 1, (.t 63))]), u (.store 3 (.t 2) (.t 64))])
  .ret)))))))⟩

def pf_Pmodel_caller_may : PF := ⟨19, [],
  (.dreg [(o 6 (.mov (.t 0)), []), (o 7 (.nilck (.t 6)), []), (o 8 (.faddr 0 (.t 7)), []), (o 9 (.faddr 0 (.t 8)), []), (o 10 (.load true 784 (.t 9)), []), (o 11 (.mov (.t 0)), []), (o 12 (.nilck (.t 11)), []), (o 13 (.faddr 952 (.t 12)), []), (o 14 (.load false 1 (.t 13)), [4]), (o 15 (.mov (.t 1)), []), (o 16 (.mov (.t 2)), []), (o 17 (.call (cf fn_access_Who_May) [(.t 10), (.t 14), (.t 15), (.t 16)]), []), (o 18 (.call (cf fn_model_fine) [(.t 17)]), [])])⟩

def pf_forest_New : PF := ⟨36, [.cell 6 true 480, .t 7, .t 8],
  (.seq (.reg [o 3 (.box (.t 0) none), o 6 (.alloc z480_3a0d none), o 7 (.mov (.c (.int .u32 0))), o 8 (.mov (ci 0))])
  (.seq (.reg [o 13 (.load true 480 (.t 3)), o 14 (.mov (.t 1)), o 15 (.mov (.t 2)), o 16 (.call (cf fn_table_Table_New) [(.t 13), (.t 14), (.t 15)]), o 12 (.mov (.t 16)), o 17 (.ext (.t 12) 0), o 18 (.ext (.t 12) 1), o 19 (.ext (.t 12) 2), o 9 (.alloc z480_3a0d none), u (.store 480 (.t 9) (.t 17)), o 10 (.mov (.t 18)), o 11 (.mov (.t 19))])
  (.seq (.seq (.reg [o 20 (.mov (.t 11)), o 21 (.eq .int (.t 20) (ci 0)), o 22 (.mov (.t 21)), gf 22 (some 23) (.mov (.t 11)), gf 22 (some 24) (.eq .int (.t 23) (ci 7)), o 25 (.pick (.t 22) (.c (.bool true)) (.t 24)), o 26 (.mov (.t 25)), gt 26 (some 27) (.load true 480 (.t 3)), gt 26 (some 28) (.mov (.t 1)), gt 26 (some 29) (.call (cf fn_forest_Depth) [(.t 27), (.t 28)]), gt 26 (some 30) (.bin .geq (.t 29) (ci 6)), o 31 (.pick (.t 26) (.t 30) (.c (.bool false)))])
  (.cond (.t 31) (.seq (.reg [o 32 (.load true 480 (.t 3)), u (.store 480 (.t 6) (.t 32)), o 7 (.mov (.c (.int .u32 0))), o 8 (.mov (ci 8))])
    .ret) .skip))
  (.seq (.reg [o 33 (.load true 480 (.t 9)), o 34 (.mov (.t 10)), o 35 (.mov (.t 11)), u (.store 480 (.t 6) (.t 33)), o 7 (.mov (.t 34)), o 8 (.mov (.t 35))])
  .ret))))⟩

def pf_model_fine : PF := ⟨6, [],
  (.reg [o 2 (.mov (.t 0)), o 3 (.eq .int (.t 2) (ci 0)), o 4 (.mov (.t 0)), o 5 (.call (cf fn_model_ask) [(.t 3), (.t 4)])])⟩

def pf_Pmodel_caller_owns : PF := ⟨34, [],
  (.seq (.dreg [(o 9 (.mov (.t 0)), []), (o 10 (.nilck (.t 9)), []), (o 11 (.faddr 0 (.t 10)), []), (o 12 (.faddr 0 (.t 11)), []), (o 13 (.faddr 480 (.t 12)), []), (o 14 (.load true 128 (.t 13)), []), (o 15 (.mov (.t 0)), []), (o 16 (.nilck (.t 15)), []), (o 17 (.faddr 0 (.t 16)), []), (o 18 (.faddr 0 (.t 17)), []), (o 19 (.faddr 0 (.t 18)), []), (o 20 (.load true 480 (.t 19)), [5]), (o 21 (.mov (.t 1)), []), (o 22 (.mov (.t 2)), []), (o 23 (.call (cf fn_own_Owns_Give) [(.t 14), (.t 20), (.t 21), (.t 22)]), []), (o 8 (.mov (.t 23)), []), (o 24 (.ext (.t 8) 0), []), (o 25 (.ext (.t 8) 1), []), (o 6 (.alloc z128_8087 none), [5, 11, 14]), (u (.store 128 (.t 6) (.t 24)), []), (o 7 (.mov (.t 25)), [])])
  (.seq (.reg [o 26 (.mov (.t 7)), o 27 (.call (cf fn_model_fine) [(.t 26)])])
  (.reg [o 28 (.mov (.t 0)), o 29 (.load true 128 (.t 6)), o 30 (.nilck (.t 28)), o 31 (.faddr 0 (.t 30)), o 32 (.faddr 0 (.t 31)), o 33 (.faddr 480 (.t 32)), u (.store 128 (.t 33) (.t 29))])))⟩

def pf_access_Who_May : PF := ⟨68, [.t 8],
  (.seq (.reg [o 4 (.box (.t 0) none), o 8 (.mov (ci 0))])
  (.seq (.seq (.reg [o 11 (.faddr 0 (.t 4)), o 12 (.faddr 0 (.t 11)), o 13 (.faddr 0 (.t 12)), o 14 (.load true 96 (.t 13)), o 15 (.mov (.t 2)), o 16 (.call (cf fn_handle_Book_Good) [(.t 14), (.t 15)]), o 17 (.un .not (.t 16))])
  (.cond (.t 17) (.seq (.reg [o 8 (.mov (ci 4))])
    .ret) .skip))
  (.seq (.reg [o 18 (.faddr 480 (.t 4)), o 19 (.load true 128 (.t 18)), o 20 (.faddr 0 (.t 4)), o 21 (.load true 480 (.t 20)), o 22 (.mov (.t 2)), o 23 (.call (cf fn_own_Owns_Of) [(.t 19), (.t 21), (.t 22)]), o 9 (.alloc [(.int .u8 0), (.int .u8 0), (.int .u8 0)] none), u (.store 3 (.t 9) (.t 23))])
  (.seq (.reg [o 10 (.mov (.c (.bool false)))])
  (.seq (.seq (.reg [o 24 (.faddr 0 (.t 9)), o 25 (.load false 1 (.t 24))])
  (.block 0 (.seq (.reg [o 27 (.eq .int (.t 25) (.c (.int .u8 3))), o 26 (.mov (.t 27))])
    (.cond (.t 26) (.reg [o 28 (.mov (.t 3)), o 29 (.eq .int (.t 28) (.c (.int .u8 0))), o 30 (.mov (.t 29)), gt 30 (some 31) (.mov (.t 1)), gt 30 (some 32) (.bin .geq (.t 31) (ci 0)), o 33 (.pick (.t 30) (.t 32) (.c (.bool false))), o 34 (.mov (.t 33)), gt 34 (some 35) (.mov (.t 1)), gt 34 (some 36) (.bin .lss (.t 35) (ci 8)), o 37 (.pick (.t 34) (.t 36) (.c (.bool false))), o 38 (.mov (.t 37)), gt 38 (some 39) (.faddr 2 (.t 9)), gt 38 (some 40) (.load false 1 (.t 39)), gt 38 (some 41) (.mov (.t 1)), gt 38 (some 42) (.shf .shr (.t 40) (.t 41)), gt 38 (some 43) (.bin .and (.t 42) (.c (.int .u8 1))), gt 38 (some 44) (.eq .int (.t 43) (.c (.int .u8 1))), o 45 (.pick (.t 38) (.t 44) (.c (.bool false))), o 10 (.mov (.t 45))]) (.seq (.reg [o 47 (.eq .int (.t 25) (.c (.int .u8 1))), o 46 (.mov (.t 47))])
      (.cond (.t 46) (.reg [o 48 (.faddr 1 (.t 9)), o 49 (.load false 1 (.t 48)), o 50 (.conv .i64 (.t 49)), o 51 (.mov (.t 1)), o 52 (.eq .int (.t 50) (.t 51)), o 53 (.mov (.t 52)), gt 53 (some 54) (.load true 784 (.t 4)), gt 53 (some 55) (.mov (.t 2)), gt 53 (some 56) (.mov (.t 3)), gt 53 (some 57) (.call (cf fn_access_Who_owner) [(.t 54), (.t 55), (.t 56)]), o 58 (.pick (.t 53) (.t 57) (.c (.bool false))), o 59 (.mov (.t 58)), gf 59 (some 60) (.load true 784 (.t 4)), gf 59 (some 61) (.mov (.t 1)), gf 59 (some 62) (.mov (.t 2)), gf 59 (some 63) (.mov (.t 3)), gf 59 (some 64) (.call (cf fn_access_Who_lent) [(.t 60), (.t 61), (.t 62), (.t 63)]), o 65 (.pick (.t 59) (.c (.bool true)) (.t 64)), o 10 (.mov (.t 65))]) .skip))))))
  (.seq (.seq (.reg [o 66 (.mov (.t 10)), o 67 (.un .not (.t 66))])
  (.cond (.t 67) (.seq (.reg [o 8 (.mov (ci 5))])
    .ret) .skip))
  (.seq (.reg [o 8 (.mov (ci 0))])
  .ret)))))))⟩

def l1_forest_Depth : PC :=
  (.block 1 (.reg [o 16 (.load false 1 (.t 5)), o 17 (.bin .add (.t 16) (ci 1)), u (.store 1 (.t 5) (.t 17))]))
def pf_forest_Depth : PF := ⟨19, [.t 4],
  (.seq (.reg [o 2 (.box (.t 0) none), o 4 (.mov (ci 0))])
  (.seq (.seq (.reg [o 6 (.faddr 0 (.t 2)), o 7 (.faddr 0 (.t 6)), o 8 (.load true 96 (.t 7)), o 9 (.mov (.t 1)), o 10 (.call (cf fn_handle_Book_Good) [(.t 8), (.t 9)]), o 11 (.un .not (.t 10))])
  (.cond (.t 11) (.seq (.reg [o 4 (.mov (ci 0))])
    .ret) .skip))
  (.seq (.reg [o 5 (.alloc [(.int .i64 0)] none), u (.store 1 (.t 5) (ci 1))])
  (.seq (.seq (.reg [o 12 (.load true 480 (.t 2)), o 13 (.mov (.t 1)), o 14 (.call (cf fn_forest_above) [(.t 12), (.t 13)])])
  (.block 0 (.rfun (.t 14) [15] .skip l1_forest_Depth)))
  (.seq (.reg [o 18 (.load false 1 (.t 5)), o 4 (.mov (.t 18))])
  .ret)))))⟩

def pf_own_Owns_Give : PF := ⟨20, [.cell 8 true 128, .t 9],
  (.seq (.reg [o 4 (.box (.t 0) none), o 5 (.box (.t 1) none), o 8 (.alloc z128_8087 none), o 9 (.mov (ci 0))])
  (.seq (.reg [o 10 (.load true 128 (.t 4)), o 11 (.load true 480 (.t 5)), o 12 (.mov (.t 2)), o 13 (.mov (.t 3)), o 14 (.mov (.t 3)), o 15 (.conv .u8 (.t 14)), o 16 (.build [(.int .u8 0), (.int .u8 0), (.int .u8 0)] [(0, 1, (.c (.int .u8 1))), (1, 1, (.t 15))]), o 17 (.call (cf fn_own_Owns_say) [(.t 10), (.t 11), (.t 12), (.t 13), (.t 16)]), o 18 (.ext (.t 17) 0), o 19 (.ext (.t 17) 1), u (.store 128 (.t 8) (.t 18)), o 9 (.mov (.t 19))])
  .ret))⟩

def pf_forest_Under : PF := ⟨15, [.t 4],
  (.seq (.reg [o 2 (.box (.t 0) none), o 4 (.mov (.c .nils))])
  (.seq (.seq (.reg [o 5 (.faddr 0 (.t 2)), o 6 (.faddr 0 (.t 5)), o 7 (.load true 96 (.t 6)), o 8 (.mov (.t 1)), o 9 (.call (cf fn_handle_Book_Good) [(.t 7), (.t 8)]), o 10 (.un .not (.t 9))])
  (.cond (.t 10) (.seq (.reg [o 4 (.mov (.c .nils))])
    .ret) .skip))
  (.seq (.reg [o 11 (.load true 480 (.t 2)), o 12 (.mov (.t 1)), o 13 (.call (cf fn_forest_under) [(.t 11), (.t 12)]), o 14 (.call (cf fn_slices_Collect_handle_Handle) [(.t 13)]), o 4 (.mov (.t 14))])
  .ret)))⟩

def pf_own_Owns_say : PF := ⟨49, [.cell 10 true 128, .t 11],
  (.seq (.reg [o 5 (.box (.t 0) none), o 6 (.box (.t 1) none), o 9 (.box (.t 4) none), o 10 (.alloc z128_8087 none), o 11 (.mov (ci 0))])
  (.seq (.block 0 (.seq (.reg [o 15 (.faddr 0 (.t 6)), o 16 (.faddr 0 (.t 15)), o 17 (.load true 96 (.t 16)), o 18 (.mov (.t 2)), o 19 (.call (cf fn_handle_Book_Good) [(.t 17), (.t 18)]), o 20 (.un .not (.t 19)), o 14 (.mov (.t 20))])
    (.cond (.t 14) (.seq (.reg [o 21 (.load true 128 (.t 5)), u (.store 128 (.t 10) (.t 21)), o 11 (.mov (ci 4))])
      .ret) (.seq (.reg [o 23 (.load true 480 (.t 6)), o 24 (.mov (.t 2)), o 25 (.call (cf fn_forest_Root) [(.t 23), (.t 24)]), o 26 (.mov (.t 2)), o 27 (.ne .int (.t 25) (.t 26)), o 22 (.mov (.t 27))])
      (.cond (.t 22) (.seq (.reg [o 28 (.load true 128 (.t 5)), u (.store 128 (.t 10) (.t 28)), o 11 (.mov (ci 12))])
        .ret) (.seq (.reg [o 30 (.mov (.t 3)), o 31 (.bin .lss (.t 30) (ci 0)), o 32 (.mov (.t 31)), gf 32 (some 33) (.mov (.t 3)), gf 32 (some 34) (.bin .geq (.t 33) (ci 8)), o 35 (.pick (.t 32) (.c (.bool true)) (.t 34)), o 29 (.mov (.t 35))])
        (.cond (.t 29) (.seq (.reg [o 36 (.load true 128 (.t 5)), u (.store 128 (.t 10) (.t 36)), o 11 (.mov (ci 2))])
          .ret) .skip)))))))
  (.seq (.reg [o 38 (.mov (.t 2)), o 39 (.call (cf fn_handle_Handle_Slot) [(.t 38)]), o 37 (.mov (.t 39)), o 40 (.ext (.t 37) 0), o 41 (.ext (.t 37) 1), o 12 (.mov (.t 40)), o 13 (.mov (.t 41))])
  (.seq (.reg [o 42 (.mov (.t 12)), o 43 (.mov (.t 2)), o 44 (.load true 3 (.t 9)), o 45 (.build [(.int .u32 0), (.int .u8 0), (.int .u8 0), (.int .u8 0)] [(0, 1, (.t 43)), (1, 3, (.t 44))]), o 46 (.faddr 0 (.t 5)), o 47 (.iaddra 32 4 (.t 46) (.t 42)), u (.store 4 (.t 47) (.t 45))])
  (.seq (.reg [o 48 (.load true 128 (.t 5)), u (.store 128 (.t 10) (.t 48)), o 11 (.mov (ci 0))])
  .ret)))))⟩

def pf_access_Who_lent : PF := ⟨15, [.t 8],
  (.seq (.reg [o 4 (.box (.t 0) none), o 5 (.box (.t 1) none), o 6 (.box (.t 2) none), o 7 (.box (.t 3) none), o 8 (.mov (.c (.bool false)))])
  (.seq (.reg [o 9 (.faddr 608 (.t 4)), o 10 (.load true 176 (.t 9)), o 11 (.load false 1 (.t 6)), o 12 (.call (cf fn_token_Tokens_On) [(.t 10), (.t 11)]), o 13 (.mkf (.func fn_access_Who_lent_1) [] [(.t 4), (.t 5), (.t 7), (.t 6)]), o 14 (.call (cf fn_slices_ContainsFunc_handle_Handle_handle_Handle) [(.t 12), (.t 13)]), o 8 (.mov (.t 14))])
  .ret))⟩

def pf_access_Who_owner_1 : PF := ⟨7, [.t 2],
  (.seq (.reg [o 2 (.mov (.c (.bool false)))])
  (.seq (.reg [o 3 (.faddr 608 (.t 0)), o 4 (.load true 176 (.t 3)), o 5 (.load false 1 (.t 1)), o 6 (.call (cf fn_token_Tokens_Reads) [(.t 4), (.t 5), (.c (.int .u32 0))]), o 2 (.mov (.t 6))])
  .ret))⟩

def pf_token_Tokens_Reads : PF := ⟨23, [.t 6],
  (.seq (.reg [o 3 (.box (.t 0) none), o 6 (.mov (.c (.bool false)))])
  (.seq (.reg [o 10 (.load true 176 (.t 3)), o 11 (.mov (.t 1)), o 12 (.mov (.t 2)), o 13 (.call (cf fn_token_Tokens_right) [(.t 10), (.t 11), (.t 12)]), o 9 (.mov (.t 13)), o 14 (.ext (.t 9) 0), o 15 (.ext (.t 9) 1), o 7 (.mov (.t 14)), o 8 (.mov (.t 15))])
  (.seq (.reg [o 16 (.load true 176 (.t 3)), o 17 (.mov (.t 2)), o 18 (.call (cf fn_token_Tokens_good) [(.t 16), (.t 17)]), o 19 (.mov (.t 18)), gt 19 (some 20) (.mov (.t 8)), gt 19 (some 21) (.un .not (.t 20)), o 22 (.pick (.t 19) (.t 21) (.c (.bool false))), o 6 (.mov (.t 22))])
  .ret)))⟩

def pf_access_Who_owner_2 : PF := ⟨7, [.t 2],
  (.seq (.reg [o 2 (.mov (.c (.bool false)))])
  (.seq (.reg [o 3 (.faddr 608 (.t 0)), o 4 (.load true 176 (.t 3)), o 5 (.load false 1 (.t 1)), o 6 (.call (cf fn_token_Tokens_Writes) [(.t 4), (.t 5), (.c (.int .u32 0))]), o 2 (.mov (.t 6))])
  .ret))⟩

def pf_token_Tokens_Writes : PF := ⟨23, [.t 6],
  (.seq (.reg [o 3 (.box (.t 0) none), o 6 (.mov (.c (.bool false)))])
  (.seq (.reg [o 10 (.load true 176 (.t 3)), o 11 (.mov (.t 1)), o 12 (.mov (.t 2)), o 13 (.call (cf fn_token_Tokens_right) [(.t 10), (.t 11), (.t 12)]), o 9 (.mov (.t 13)), o 14 (.ext (.t 9) 0), o 15 (.ext (.t 9) 1), o 7 (.mov (.t 14)), o 8 (.mov (.t 15))])
  (.seq (.reg [o 16 (.load true 176 (.t 3)), o 17 (.mov (.t 2)), o 18 (.call (cf fn_token_Tokens_good) [(.t 16), (.t 17)]), o 19 (.mov (.t 18)), gt 19 (some 20) (.mov (.t 7)), gt 19 (some 21) (.eq .int (.t 20) (ci 0)), o 22 (.pick (.t 19) (.t 21) (.c (.bool false))), o 6 (.mov (.t 22))])
  .ret)))⟩

def pf_access_Who_owner_3 : PF := ⟨10, [.t 2],
  (.seq (.reg [o 2 (.mov (.c (.bool false)))])
  (.seq (.reg [o 3 (.faddr 0 (.t 0)), o 4 (.load true 480 (.t 3)), o 5 (.load false 1 (.t 1)), o 6 (.call (cf fn_forest_Under) [(.t 4), (.t 5)]), o 7 (.mkf (.func fn_access_Who_owner_3_1) [] [(.t 0)]), o 8 (.call (cf fn_slices_ContainsFunc_handle_Handle_handle_Handle) [(.t 6), (.t 7)]), o 9 (.un .not (.t 8)), o 2 (.mov (.t 9))])
  .ret))⟩

def pf_slices_ContainsFunc_handle_Handle_handle_Handle : PF := ⟨9, [.t 4],
  (.seq (.reg [o 4 (.mov (.c (.bool false)))])
  (.seq (.reg [o 5 (.mov (.t 0)), o 6 (.mov (.t 1)), o 7 (.call (cf fn_slices_IndexFunc_handle_Handle_handle_Handle) [(.t 5), (.t 6)]), o 8 (.bin .geq (.t 7) (ci 0)), o 4 (.mov (.t 8))])
  .ret))⟩

def pf_access_Who_owner_3_1 : PF := ⟨10, [.t 3],
  (.seq (.reg [o 3 (.mov (.c (.bool false)))])
  (.seq (.reg [o 4 (.faddr 608 (.t 1)), o 5 (.load true 176 (.t 4)), o 6 (.mov (.t 0)), o 7 (.call (cf fn_token_Tokens_On) [(.t 5), (.t 6)]), o 8 (.len .sl (.t 7)), o 9 (.bin .gtr (.t 8) (ci 0)), o 3 (.mov (.t 9))])
  .ret))⟩

def pf_token_Tokens_On : PF := ⟨8, [.t 4],
  (.seq (.reg [o 2 (.box (.t 0) none), o 3 (.box (.t 1) none), o 4 (.mov (.c .nils))])
  (.seq (.reg [o 5 (.load true 176 (.t 2)), o 6 (.mkf (.func fn_token_Tokens_On_1) [] [(.t 3)]), o 7 (.call (cf fn_token_Tokens_those) [(.t 5), (.t 6)]), o 4 (.mov (.t 7))])
  .ret))⟩

def pf_slices_Collect_handle_Handle : PF := ⟨5, [.t 2],
  (.seq (.reg [o 2 (.mov (.c .nils))])
  (.seq (.reg [o 3 (.mov (.t 0)), o 4 (.call (cf fn_slices_AppendSeq_handle_Handle_handle_Handle) [(.c .nils), (.t 3)]), o 2 (.mov (.t 4))])
  .ret))⟩

def pf_forest_under : PF := ⟨6, [.t 4],
  (.seq (.reg [o 2 (.box (.t 0) none), o 3 (.box (.t 1) none), o 4 (.mov (.c .nilf))])
  (.seq (.reg [o 5 (.mkf (.func fn_forest_under_1) [] [(.t 3), (.t 2)]), o 4 (.mov (.t 5))])
  .ret))⟩

def pf_access_Who_lent_1 : PF := ⟨47, [.t 6],
  (.seq (.reg [o 6 (.mov (.c (.bool false)))])
  (.seq (.reg [o 10 (.faddr 608 (.t 1)), o 11 (.load true 176 (.t 10)), o 12 (.mov (.t 0)), o 13 (.call (cf fn_token_Tokens_Get) [(.t 11), (.t 12)]), o 9 (.mov (.t 13)), o 14 (.ext (.t 9) 0), o 15 (.ext (.t 9) 1), o 7 (.alloc [(.int .u32 0), (.int .u8 0), (.int .u8 0), (.bool false), (.int .u32 0)] none), u (.store 5 (.t 7) (.t 14)), o 8 (.mov (.t 15))])
  (.seq (.reg [o 16 (.faddr 2 (.t 7)), o 17 (.load false 1 (.t 16)), o 18 (.conv .i64 (.t 17)), o 19 (.load false 1 (.t 2)), o 20 (.eq .int (.t 18) (.t 19)), o 21 (.mov (.t 20)), gt 21 (some 22) (.load false 1 (.t 3)), gt 21 (some 23) (.eq .int (.t 22) (.c (.int .u8 0))), gt 21 (some 24) (.mov (.t 23)), gt 24 (some 25) (.faddr 608 (.t 1)), gt 24 (some 26) (.load true 176 (.t 25)), gt 24 (some 27) (.load false 1 (.t 4)), gt 24 (some 28) (.mov (.t 0)), gt 24 (some 29) (.call (cf fn_token_Tokens_Reads) [(.t 26), (.t 27), (.t 28)]), gt 21 (some 30) (.pick (.t 24) (.t 29) (.c (.bool false))), gt 21 (some 31) (.mov (.t 30)), gf 31 (some 32) (.load false 1 (.t 3)), gf 31 (some 33) (.eq .int (.t 32) (.c (.int .u8 1))), gf 31 (some 34) (.mov (.t 33)), gt 34 (some 35) (.faddr 3 (.t 7)), gt 34 (some 36) (.load false 1 (.t 35)), gf 31 (some 37) (.pick (.t 34) (.t 36) (.c (.bool false))), gf 31 (some 38) (.mov (.t 37)), gt 38 (some 39) (.faddr 608 (.t 1)), gt 38 (some 40) (.load true 176 (.t 39)), gt 38 (some 41) (.load false 1 (.t 4)), gt 38 (some 42) (.mov (.t 0)), gt 38 (some 43) (.call (cf fn_token_Tokens_Writes) [(.t 40), (.t 41), (.t 42)]), gf 31 (some 44) (.pick (.t 38) (.t 43) (.c (.bool false))), gt 21 (some 45) (.pick (.t 31) (.c (.bool true)) (.t 44)), o 46 (.pick (.t 21) (.t 45) (.c (.bool false))), o 6 (.mov (.t 46))])
  .ret)))⟩

def l1_slices_IndexFunc_handle_Handle_handle_Handle : PC :=
  (.seq (.reg [o 9 (.bin .lss (.t 8) (.t 7))])
  (.seq (.cond (.t 9) .skip (.exit 0))
  (.seq (.block 1 (.seq (.reg [o 10 (.mov (.t 8)), o 5 (.mov (.t 10))])
    (.seq (.reg [o 11 (.mov (.t 1)), o 12 (.mov (.t 0)), o 13 (.mov (.t 5)), o 14 (.iaddrs 1 (.t 12) (.t 13)), o 15 (.load false 1 (.t 14)), o 16 (.call (.t 11) [(.t 15)])])
    (.cond (.t 16) (.seq (.reg [o 17 (.mov (.t 5)), o 4 (.mov (.t 17))])
      .ret) .skip))))
  (.reg [o 18 (.bin .add (.t 8) (ci 1)), o 8 (.mov (.t 18))]))))
def pf_slices_IndexFunc_handle_Handle_handle_Handle : PF := ⟨19, [.t 4],
  (.seq (.reg [o 4 (.mov (ci 0))])
  (.seq (.seq (.reg [o 6 (.mov (.t 0)), o 7 (.len .sl (.t 6)), o 8 (.mov (ci 0))])
  (.block 0 (.loop l1_slices_IndexFunc_handle_Handle_handle_Handle)))
  (.seq (.reg [o 4 (.mov (ci (-1)))])
  .ret)))⟩

def pf_token_Tokens_On_1 : PF := ⟨8, [.t 3],
  (.seq (.reg [o 2 (.box (.t 0) none), o 3 (.mov (.c (.bool false)))])
  (.seq (.reg [o 4 (.faddr 0 (.t 2)), o 5 (.load false 1 (.t 4)), o 6 (.load false 1 (.t 1)), o 7 (.eq .int (.t 5) (.t 6)), o 3 (.mov (.t 7))])
  .ret))⟩

def l1_slices_AppendSeq_handle_Handle_handle_Handle : PC :=
  (.block 1 (.reg [o 8 (.load false 1 (.t 2)), o 9 (.mov (.t 5)), o 10 (.bslice [(.int .u32 0)] 1 [(0, 1, (.t 9))]), o 11 (.append ty_handle_Handle 1 4 (.t 8) (.t 10)), u (.store 1 (.t 2) (.t 11))]))
def pf_slices_AppendSeq_handle_Handle_handle_Handle : PF := ⟨13, [.t 4],
  (.seq (.reg [o 2 (.box (.t 0) none), o 4 (.mov (.c .nils))])
  (.seq (.seq (.reg [o 6 (.mov (.t 1))])
  (.block 0 (.rfun (.t 6) [7] (.reg [o 5 (.mov (.t 7))]) l1_slices_AppendSeq_handle_Handle_handle_Handle)))
  (.seq (.reg [o 12 (.load false 1 (.t 2)), o 4 (.mov (.t 12))])
  .ret)))⟩

def l1_forest_under_1 : PC :=
  (.seq (.seq (.reg [o 9 (.mov (.t 4)), o 10 (.len .sl (.t 9)), o 11 (.bin .gtr (.t 10) (ci 0))])
  (.cond (.t 11) .skip (.exit 0)))
  (.block 1 (.seq (.reg [o 12 (.mov (.t 4)), o 13 (.mov (.t 4)), o 14 (.len .sl (.t 13)), o 15 (.bin .sub (.t 14) (ci 1)), o 16 (.iaddrs 1 (.t 12) (.t 15)), o 17 (.load false 1 (.t 16)), o 5 (.mov (.t 17))])
    (.seq (.seq (.reg [o 18 (.mov (.t 0)), o 19 (.mov (.t 5)), o 20 (.call (.t 18) [(.t 19)]), o 21 (.un .not (.t 20))])
    (.cond (.t 21) .ret .skip))
    (.seq (.reg [o 22 (.load true 480 (.t 2)), o 23 (.mov (.t 5)), o 24 (.call (cf fn_forest_Kids) [(.t 22), (.t 23)]), o 6 (.mov (.t 24))])
    (.seq (.reg [o 25 (.mov (.t 6)), o 26 (.call (cf fn_slices_Reverse_handle_Handle_handle_Handle) [(.t 25)])])
    (.reg [o 27 (.mov (.t 4)), o 28 (.mov (.t 4)), o 29 (.len .sl (.t 28)), o 30 (.bin .sub (.t 29) (ci 1)), o 31 (.slsl 1 (.t 27) none (some (.t 30)) none), o 32 (.mov (.t 6)), o 33 (.append ty_handle_Handle 1 4 (.t 31) (.t 32)), o 4 (.mov (.t 33))])))))))
def pf_forest_under_1 : PF := ⟨34, [],
  (.seq (.reg [o 7 (.load false 1 (.t 1)), o 8 (.bslice [(.int .u32 0)] 1 [(0, 1, (.t 7))]), o 4 (.mov (.t 8))])
  (.block 0 (.loop l1_forest_under_1)))⟩

def pf_forest_Kids : PF := ⟨16, [.t 4],
  (.seq (.reg [o 2 (.box (.t 0) none), o 3 (.box (.t 1) none), o 4 (.mov (.c .nils))])
  (.seq (.seq (.reg [o 5 (.faddr 0 (.t 2)), o 6 (.faddr 0 (.t 5)), o 7 (.load true 96 (.t 6)), o 8 (.load false 1 (.t 3)), o 9 (.call (cf fn_handle_Book_Good) [(.t 7), (.t 8)]), o 10 (.un .not (.t 9))])
  (.cond (.t 10) (.seq (.reg [o 4 (.mov (.c .nils))])
    .ret) .skip))
  (.seq (.reg [o 11 (.faddr 0 (.t 2)), o 12 (.load true 96 (.t 11)), o 13 (.call (cf fn_table_book_All) [(.t 12)]), o 14 (.mkf (.func fn_forest_Kids_1) [] [(.t 2), (.t 3)]), o 15 (.call (cf fn_slices_DeleteFunc_handle_Handle_handle_Handle) [(.t 13), (.t 14)]), o 4 (.mov (.t 15))])
  .ret)))⟩

def l1_slices_Reverse_handle_Handle_handle_Handle : PC :=
  (.seq (.seq (.reg [o 7 (.mov (.t 2)), o 8 (.mov (.t 3)), o 9 (.bin .lss (.t 7) (.t 8))])
  (.cond (.t 9) .skip (.exit 0)))
  (.seq (.block 1 (.dreg [(o 14 (.mov (.t 0)), []), (o 15 (.mov (.t 2)), []), (o 16 (.mov (.t 0)), []), (o 17 (.mov (.t 3)), []), (o 18 (.mov (.t 0)), []), (o 19 (.mov (.t 3)), []), (o 20 (.iaddrs 1 (.t 18) (.t 19)), []), (o 21 (.load false 1 (.t 20)), []), (o 22 (.mov (.t 0)), []), (o 23 (.mov (.t 2)), []), (o 24 (.iaddrs 1 (.t 22) (.t 23)), []), (o 25 (.load false 1 (.t 24)), [7]), (o 26 (.iaddrs 1 (.t 14) (.t 15)), []), (u (.store 1 (.t 26) (.t 21)), []), (o 27 (.iaddrs 1 (.t 16) (.t 17)), []), (u (.store 1 (.t 27) (.t 25)), [])]))
  (.reg [o 10 (.mov (.t 2)), o 11 (.bin .add (.t 10) (ci 1)), o 12 (.mov (.t 3)), o 13 (.bin .sub (.t 12) (ci 1)), o 2 (.mov (.t 11)), o 3 (.mov (.t 13))])))
def pf_slices_Reverse_handle_Handle_handle_Handle : PF := ⟨28, [],
  (.seq (.reg [o 4 (.mov (.t 0)), o 5 (.len .sl (.t 4)), o 6 (.bin .sub (.t 5) (ci 1)), o 2 (.mov (ci 0)), o 3 (.mov (.t 6))])
  (.block 0 (.loop l1_slices_Reverse_handle_Handle_handle_Handle)))⟩

def l1_slices_DeleteFunc_handle_Handle_handle_Handle : PC :=
  (.seq (.seq (.reg [o 16 (.mov (.t 6)), o 17 (.mov (.t 0)), o 18 (.len .sl (.t 17)), o 19 (.bin .lss (.t 16) (.t 18))])
  (.cond (.t 19) .skip (.exit 0)))
  (.seq (.block 1 (.seq (.reg [o 22 (.mov (.t 0)), o 23 (.mov (.t 6)), o 24 (.iaddrs 1 (.t 22) (.t 23)), o 25 (.load false 1 (.t 24)), o 7 (.mov (.t 25))])
    (.seq (.reg [o 26 (.mov (.t 1)), o 27 (.mov (.t 7)), o 28 (.call (.t 26) [(.t 27)]), o 29 (.un .not (.t 28))])
    (.cond (.t 29) (.seq (.reg [o 30 (.mov (.t 0)), o 31 (.mov (.t 5)), o 32 (.mov (.t 7)), o 33 (.iaddrs 1 (.t 30) (.t 31)), u (.store 1 (.t 33) (.t 32))])
      (.reg [o 34 (.mov (.t 5)), o 35 (.bin .add (.t 34) (ci 1)), o 5 (.mov (.t 35))])) .skip))))
  (.reg [o 20 (.mov (.t 6)), o 21 (.bin .add (.t 20) (ci 1)), o 6 (.mov (.t 21))])))
def pf_slices_DeleteFunc_handle_Handle_handle_Handle : PF := ⟨42, [.t 4],
  (.seq (.reg [o 4 (.mov (.c .nils))])
  (.seq (.reg [o 8 (.mov (.t 0)), o 9 (.mov (.t 1)), o 10 (.call (cf fn_slices_IndexFunc_handle_Handle_handle_Handle) [(.t 8), (.t 9)]), o 5 (.mov (.t 10))])
  (.seq (.seq (.reg [o 11 (.mov (.t 5)), o 12 (.eq .int (.t 11) (ci (-1)))])
  (.cond (.t 12) (.seq (.reg [o 13 (.mov (.t 0)), o 4 (.mov (.t 13))])
    .ret) .skip))
  (.seq (.seq (.reg [o 14 (.mov (.t 5)), o 15 (.bin .add (.t 14) (ci 1)), o 6 (.mov (.t 15))])
  (.block 0 (.loop l1_slices_DeleteFunc_handle_Handle_handle_Handle)))
  (.seq (.reg [o 36 (.mov (.t 0)), o 37 (.mov (.t 5)), o 38 (.slsl 1 (.t 36) (some (.t 37)) none none), u (.clear [(.int .u32 0)] (.t 38))])
  (.seq (.reg [o 39 (.mov (.t 0)), o 40 (.mov (.t 5)), o 41 (.slsl 1 (.t 39) none (some (.t 40)) none), o 4 (.mov (.t 41))])
  .ret))))))⟩

def pf_forest_Kids_1 : PF := ⟨17, [.t 4],
  (.seq (.reg [o 4 (.mov (.c (.bool false)))])
  (.seq (.reg [o 8 (.load true 480 (.t 1)), o 9 (.mov (.t 0)), o 10 (.call (cf fn_table_Table_Get) [(.t 8), (.t 9)]), o 7 (.mov (.t 10)), o 11 (.ext (.t 7) 0), o 12 (.ext (.t 7) 1), o 5 (.alloc [(.int .u32 0), (.int .i64 0), .nils, (.int .i64 0), (.int .u32 0), (.int .u32 0), (.int .u32 0), (.int .u32 0), (.int .u32 0), (.int .u32 0), (.int .u32 0), (.int .u32 0)] none), u (.store 12 (.t 5) (.t 11)), o 6 (.mov (.t 12))])
  (.seq (.reg [o 13 (.faddr 0 (.t 5)), o 14 (.load false 1 (.t 13)), o 15 (.load false 1 (.t 2)), o 16 (.ne .int (.t 14) (.t 15)), o 4 (.mov (.t 16))])
  .ret)))⟩

def recT : List (Nat × PRec) := [(fn_Pmodel_caller_calls_1, pr_Pmodel_caller_calls_1)]

def codeT : List (Nat × PF) := [(fn_law31_DiffTells, pf_law31_DiffTells), (fn_law31_DiffBack, pf_law31_DiffBack), (fn_law31_wakes, pf_law31_wakes), (fn_diff_Diff, pf_diff_Diff), (fn_ref31_Diff, pf_ref31_Diff), (fn_law31_same, pf_law31_same), (fn_diff_Apart, pf_diff_Apart), (fn_ref31_Apart, pf_ref31_Apart), (fn_diff_Effects, pf_diff_Effects), (fn_diff_lines, pf_diff_lines), (fn_diff_some_string, pf_diff_some_string), (fn_diff_Diff_1, pf_diff_Diff_1), (fn_ref31_lines, pf_ref31_lines), (fn_ref30_Key, pf_ref30_Key), (fn_ref31_last, pf_ref31_last), (fn_diff_some_diff_Change, pf_diff_some_diff_Change), (fn_diff_Apart_1, pf_diff_Apart_1), (fn_trace_Replay, pf_trace_Replay), (fn_model_Begin, pf_model_Begin), (fn_dump_State, pf_dump_State), (fn_model_State_Do, pf_model_State_Do), (fn_dump_Lines, pf_dump_Lines), (fn_dump_Key, pf_dump_Key), (fn_ref30_Lines, pf_ref30_Lines), (fn_model_State_Needs, pf_model_State_Needs), (fn_Pdump_dumper_state, pf_Pdump_dumper_state), (fn_Pstrings_Builder_String, pf_Pstrings_Builder_String), (fn_strings_Split, pf_strings_Split), (fn_strings_TrimSuffix, pf_strings_TrimSuffix), (fn_strings_Cut, pf_strings_Cut), (fn_Pdump_dumper_regions, pf_Pdump_dumper_regions), (fn_Pdump_dumper_tokens, pf_Pdump_dumper_tokens), (fn_Pdump_dumper_line, pf_Pdump_dumper_line), (fn_mail_Box_Closed, pf_mail_Box_Closed), (fn_mail_Box_All, pf_mail_Box_All), (fn_model_ask, pf_model_ask), (fn_strings_genSplit, pf_strings_genSplit), (fn_istringslite_TrimSuffix, pf_istringslite_TrimSuffix), (fn_istringslite_Cut, pf_istringslite_Cut), (fn_table_book_All, pf_table_book_All), (fn_table_Table_Get, pf_table_Table_Get), (fn_own_Owns_Of, pf_own_Owns_Of), (fn_dump_list_runs_Run, pf_dump_list_runs_Run), (fn_dump_list_handle_Handle, pf_dump_list_handle_Handle), (fn_table_Table_New, pf_table_Table_New), (fn_token_Tokens_Of, pf_token_Tokens_Of), (fn_handle_Handle_Slot, pf_handle_Handle_Slot), (fn_token_Tokens_Get, pf_token_Tokens_Get), (fn_token_Tokens_Lend, pf_token_Tokens_Lend), (fn_Pstrings_Builder_WriteByte, pf_Pstrings_Builder_WriteByte), (fn_Pstrings_Builder_WriteString, pf_Pstrings_Builder_WriteString), (fn_dump_word, pf_dump_word), (fn_mail_Box_each, pf_mail_Box_each), (fn_slices_Clip_mail_Message_mail_Message, pf_slices_Clip_mail_Message_mail_Message), (fn_strings_explode, pf_strings_explode), (fn_strings_Count, pf_strings_Count), (fn_strings_Index, pf_strings_Index), (fn_istringslite_HasSuffix, pf_istringslite_HasSuffix), (fn_istringslite_Index, pf_istringslite_Index), (fn_handle_Book_Issued, pf_handle_Book_Issued), (fn_handle_Book_Good, pf_handle_Book_Good), (fn_table_Table_up, pf_table_Table_up), (fn_forest_Root, pf_forest_Root), (fn_strings_Join, pf_strings_Join), (fn_table_quota, pf_table_quota), (fn_handle_Book_Issue, pf_handle_Book_Issue), (fn_token_Tokens_those, pf_token_Tokens_those), (fn_token_Tokens_Of_1, pf_token_Tokens_Of_1), (fn_token_Tokens_may, pf_token_Tokens_may), (fn_strconv_Itoa, pf_strconv_Itoa), (fn_strconv_FormatUint, pf_strconv_FormatUint), (fn_mail_Box_each_1, pf_mail_Box_each_1), (fn_mail_Box_at, pf_mail_Box_at), (fn_unicode_utf8_RuneCountInString, pf_unicode_utf8_RuneCountInString), (fn_unicode_utf8_DecodeRuneInString, pf_unicode_utf8_DecodeRuneInString), (fn_istringslite_IndexByte, pf_istringslite_IndexByte), (fn_ibytealg_Cutover, pf_ibytealg_Cutover), (fn_ibytealg_IndexRabinKarp_string, pf_ibytealg_IndexRabinKarp_string), (fn_handle_Book_At, pf_handle_Book_At), (fn_forest_above, pf_forest_above), (fn_Pstrings_Builder_Grow, pf_Pstrings_Builder_Grow), (fn_handle_of, pf_handle_of), (fn_token_Tokens_right, pf_token_Tokens_right), (fn_token_Tokens_good, pf_token_Tokens_good), (fn_istrconv_Itoa, pf_istrconv_Itoa), (fn_istrconv_FormatUint, pf_istrconv_FormatUint), (fn_unicode_utf8_decodeRuneInStringSlow, pf_unicode_utf8_decodeRuneInStringSlow), (fn_ibytealg_hashStr_string, pf_ibytealg_hashStr_string), (fn_forest_above_1, pf_forest_above_1), (fn_token_Tokens_right_1, pf_token_Tokens_right_1), (fn_istrconv_FormatInt, pf_istrconv_FormatInt), (fn_istrconv_small, pf_istrconv_small), (fn_istrconv_numDigits, pf_istrconv_numDigits), (fn_istrconv_formatBase10, pf_istrconv_formatBase10), (fn_istrconv_formatBits, pf_istrconv_formatBits), (fn_istrconv_log10Pow2, pf_istrconv_log10Pow2), (fn_math_bits_Len64, pf_math_bits_Len64), (fn_istrconv_bool2_int, pf_istrconv_bool2_int), (fn_istrconv_isPowerOfTwo, pf_istrconv_isPowerOfTwo), (fn_math_bits_TrailingZeros, pf_math_bits_TrailingZeros), (fn_math_bits_TrailingZeros32, pf_math_bits_TrailingZeros32), (fn_math_bits_TrailingZeros64, pf_math_bits_TrailingZeros64), (fn_access_Who_owner, pf_access_Who_owner), (fn_Pmodel_caller_new, pf_Pmodel_caller_new), (fn_Pmodel_caller_may, pf_Pmodel_caller_may), (fn_forest_New, pf_forest_New), (fn_model_fine, pf_model_fine), (fn_Pmodel_caller_owns, pf_Pmodel_caller_owns), (fn_access_Who_May, pf_access_Who_May), (fn_forest_Depth, pf_forest_Depth), (fn_own_Owns_Give, pf_own_Owns_Give), (fn_forest_Under, pf_forest_Under), (fn_own_Owns_say, pf_own_Owns_say), (fn_access_Who_lent, pf_access_Who_lent), (fn_access_Who_owner_1, pf_access_Who_owner_1), (fn_token_Tokens_Reads, pf_token_Tokens_Reads), (fn_access_Who_owner_2, pf_access_Who_owner_2), (fn_token_Tokens_Writes, pf_token_Tokens_Writes), (fn_access_Who_owner_3, pf_access_Who_owner_3), (fn_slices_ContainsFunc_handle_Handle_handle_Handle, pf_slices_ContainsFunc_handle_Handle_handle_Handle), (fn_access_Who_owner_3_1, pf_access_Who_owner_3_1), (fn_token_Tokens_On, pf_token_Tokens_On), (fn_slices_Collect_handle_Handle, pf_slices_Collect_handle_Handle), (fn_forest_under, pf_forest_under), (fn_access_Who_lent_1, pf_access_Who_lent_1), (fn_slices_IndexFunc_handle_Handle_handle_Handle, pf_slices_IndexFunc_handle_Handle_handle_Handle), (fn_token_Tokens_On_1, pf_token_Tokens_On_1), (fn_slices_AppendSeq_handle_Handle_handle_Handle, pf_slices_AppendSeq_handle_Handle_handle_Handle), (fn_forest_under_1, pf_forest_under_1), (fn_forest_Kids, pf_forest_Kids), (fn_slices_Reverse_handle_Handle_handle_Handle, pf_slices_Reverse_handle_Handle_handle_Handle), (fn_slices_DeleteFunc_handle_Handle_handle_Handle, pf_slices_DeleteFunc_handle_Handle_handle_Handle), (fn_forest_Kids_1, pf_forest_Kids_1)]

theorem ok_law31_DiffTells : OkF Tryz.prog fn_law31_DiffTells pf_law31_DiffTells := ⟨false, Tryz.f3, Tryz.func3, by kernel_rfl⟩
theorem ok_law31_DiffBack : OkF Tryz.prog fn_law31_DiffBack pf_law31_DiffBack := ⟨false, Tryz.f4, Tryz.func4, by kernel_rfl⟩
theorem ok_law31_wakes : OkF Tryz.prog fn_law31_wakes pf_law31_wakes := ⟨false, Tryz.f5, Tryz.func5, by kernel_rfl⟩
theorem ok_diff_Diff : OkF Tryz.prog fn_diff_Diff pf_diff_Diff := ⟨false, Tryz.f6, Tryz.func6, by kernel_rfl⟩
theorem ok_ref31_Diff : OkF Tryz.prog fn_ref31_Diff pf_ref31_Diff := ⟨false, Tryz.f7, Tryz.func7, by kernel_rfl⟩
theorem ok_law31_same : OkF Tryz.prog fn_law31_same pf_law31_same := ⟨false, Tryz.f8, Tryz.func8, by kernel_rfl⟩
theorem ok_diff_Apart : OkF Tryz.prog fn_diff_Apart pf_diff_Apart := ⟨false, Tryz.f9, Tryz.func9, by kernel_rfl⟩
theorem ok_ref31_Apart : OkF Tryz.prog fn_ref31_Apart pf_ref31_Apart := ⟨false, Tryz.f10, Tryz.func10, by kernel_rfl⟩
theorem ok_diff_Effects : OkF Tryz.prog fn_diff_Effects pf_diff_Effects := ⟨false, Tryz.f11, Tryz.func11, by kernel_rfl⟩
theorem ok_diff_lines : OkF Tryz.prog fn_diff_lines pf_diff_lines := ⟨false, Tryz.f12, Tryz.func12, by kernel_rfl⟩
theorem ok_diff_some_string : OkF Tryz.prog fn_diff_some_string pf_diff_some_string := ⟨false, Tryz.f13, Tryz.func13, by kernel_rfl⟩
theorem ok_diff_Diff_1 : OkF Tryz.prog fn_diff_Diff_1 pf_diff_Diff_1 := ⟨false, Tryz.f14, Tryz.func14, by kernel_rfl⟩
theorem ok_ref31_lines : OkF Tryz.prog fn_ref31_lines pf_ref31_lines := ⟨false, Tryz.f15, Tryz.func15, by kernel_rfl⟩
theorem ok_ref30_Key : OkF Tryz.prog fn_ref30_Key pf_ref30_Key := ⟨false, Tryz.f16, Tryz.func16, by kernel_rfl⟩
theorem ok_ref31_last : OkF Tryz.prog fn_ref31_last pf_ref31_last := ⟨false, Tryz.f17, Tryz.func17, by kernel_rfl⟩
theorem ok_diff_some_diff_Change : OkF Tryz.prog fn_diff_some_diff_Change pf_diff_some_diff_Change := ⟨false, Tryz.f18, Tryz.func18, by kernel_rfl⟩
theorem ok_diff_Apart_1 : OkF Tryz.prog fn_diff_Apart_1 pf_diff_Apart_1 := ⟨false, Tryz.f19, Tryz.func19, by kernel_rfl⟩
theorem ok_trace_Replay : OkF Tryz.prog fn_trace_Replay pf_trace_Replay := ⟨false, Tryz.f20, Tryz.func20, by kernel_rfl⟩
theorem ok_model_Begin : OkF Tryz.prog fn_model_Begin pf_model_Begin := ⟨false, Tryz.f21, Tryz.func21, by kernel_rfl⟩
theorem ok_dump_State : OkF Tryz.prog fn_dump_State pf_dump_State := ⟨false, Tryz.f22, Tryz.func22, by kernel_rfl⟩
theorem ok_model_State_Do : OkF Tryz.prog fn_model_State_Do pf_model_State_Do := ⟨false, Tryz.f23, Tryz.func23, by kernel_rfl⟩
theorem ok_dump_Lines : OkF Tryz.prog fn_dump_Lines pf_dump_Lines := ⟨false, Tryz.f24, Tryz.func24, by kernel_rfl⟩
theorem ok_dump_Key : OkF Tryz.prog fn_dump_Key pf_dump_Key := ⟨false, Tryz.f25, Tryz.func25, by kernel_rfl⟩
theorem ok_ref30_Lines : OkF Tryz.prog fn_ref30_Lines pf_ref30_Lines := ⟨false, Tryz.f26, Tryz.func26, by kernel_rfl⟩
theorem ok_model_State_Needs : OkF Tryz.prog fn_model_State_Needs pf_model_State_Needs := ⟨false, Tryz.f27, Tryz.func27, by kernel_rfl⟩
theorem ok_Pdump_dumper_state : OkF Tryz.prog fn_Pdump_dumper_state pf_Pdump_dumper_state := ⟨false, Tryz.f28, Tryz.func28, by kernel_rfl⟩
theorem ok_Pstrings_Builder_String : OkF Tryz.prog fn_Pstrings_Builder_String pf_Pstrings_Builder_String := ⟨false, Tryz.f29, Tryz.func29, by kernel_rfl⟩
theorem okD_Pmodel_caller_calls : prepD Tryz.prog false Tryz.f30 = some pd_Pmodel_caller_calls := by kernel_rfl
theorem ok_strings_Split : OkF Tryz.prog fn_strings_Split pf_strings_Split := ⟨false, Tryz.f31, Tryz.func31, by kernel_rfl⟩
theorem ok_strings_TrimSuffix : OkF Tryz.prog fn_strings_TrimSuffix pf_strings_TrimSuffix := ⟨false, Tryz.f32, Tryz.func32, by kernel_rfl⟩
theorem ok_strings_Cut : OkF Tryz.prog fn_strings_Cut pf_strings_Cut := ⟨false, Tryz.f33, Tryz.func33, by kernel_rfl⟩
theorem ok_Pdump_dumper_regions : OkF Tryz.prog fn_Pdump_dumper_regions pf_Pdump_dumper_regions := ⟨false, Tryz.f34, Tryz.func34, by kernel_rfl⟩
theorem ok_Pdump_dumper_tokens : OkF Tryz.prog fn_Pdump_dumper_tokens pf_Pdump_dumper_tokens := ⟨false, Tryz.f35, Tryz.func35, by kernel_rfl⟩
theorem ok_Pdump_dumper_line : OkF Tryz.prog fn_Pdump_dumper_line pf_Pdump_dumper_line := ⟨false, Tryz.f36, Tryz.func36, by kernel_rfl⟩
theorem ok_mail_Box_Closed : OkF Tryz.prog fn_mail_Box_Closed pf_mail_Box_Closed := ⟨false, Tryz.f37, Tryz.func37, by kernel_rfl⟩
theorem ok_mail_Box_All : OkF Tryz.prog fn_mail_Box_All pf_mail_Box_All := ⟨false, Tryz.f38, Tryz.func38, by kernel_rfl⟩
theorem okR_Pmodel_caller_calls_1 : prepR Tryz.prog false Tryz.f39 = some pr_Pmodel_caller_calls_1 := by kernel_rfl
theorem ok_model_ask : OkF Tryz.prog fn_model_ask pf_model_ask := ⟨false, Tryz.f40, Tryz.func40, by kernel_rfl⟩
theorem ok_strings_genSplit : OkF Tryz.prog fn_strings_genSplit pf_strings_genSplit := ⟨false, Tryz.f41, Tryz.func41, by kernel_rfl⟩
theorem ok_istringslite_TrimSuffix : OkF Tryz.prog fn_istringslite_TrimSuffix pf_istringslite_TrimSuffix := ⟨false, Tryz.f42, Tryz.func42, by kernel_rfl⟩
theorem ok_istringslite_Cut : OkF Tryz.prog fn_istringslite_Cut pf_istringslite_Cut := ⟨false, Tryz.f43, Tryz.func43, by kernel_rfl⟩
theorem ok_table_book_All : OkF Tryz.prog fn_table_book_All pf_table_book_All := ⟨false, Tryz.f44, Tryz.func44, by kernel_rfl⟩
theorem ok_table_Table_Get : OkF Tryz.prog fn_table_Table_Get pf_table_Table_Get := ⟨false, Tryz.f45, Tryz.func45, by kernel_rfl⟩
theorem ok_own_Owns_Of : OkF Tryz.prog fn_own_Owns_Of pf_own_Owns_Of := ⟨false, Tryz.f46, Tryz.func46, by kernel_rfl⟩
theorem ok_dump_list_runs_Run : OkF Tryz.prog fn_dump_list_runs_Run pf_dump_list_runs_Run := ⟨false, Tryz.f47, Tryz.func47, by kernel_rfl⟩
theorem ok_dump_list_handle_Handle : OkF Tryz.prog fn_dump_list_handle_Handle pf_dump_list_handle_Handle := ⟨false, Tryz.f48, Tryz.func48, by kernel_rfl⟩
theorem ok_table_Table_New : OkF Tryz.prog fn_table_Table_New pf_table_Table_New := ⟨false, Tryz.f49, Tryz.func49, by kernel_rfl⟩
theorem ok_token_Tokens_Of : OkF Tryz.prog fn_token_Tokens_Of pf_token_Tokens_Of := ⟨false, Tryz.f50, Tryz.func50, by kernel_rfl⟩
theorem ok_handle_Handle_Slot : OkF Tryz.prog fn_handle_Handle_Slot pf_handle_Handle_Slot := ⟨false, Tryz.f51, Tryz.func51, by kernel_rfl⟩
theorem ok_token_Tokens_Get : OkF Tryz.prog fn_token_Tokens_Get pf_token_Tokens_Get := ⟨false, Tryz.f52, Tryz.func52, by kernel_rfl⟩
theorem ok_token_Tokens_Lend : OkF Tryz.prog fn_token_Tokens_Lend pf_token_Tokens_Lend := ⟨false, Tryz.f53, Tryz.func53, by kernel_rfl⟩
theorem ok_Pstrings_Builder_WriteByte : OkF Tryz.prog fn_Pstrings_Builder_WriteByte pf_Pstrings_Builder_WriteByte := ⟨false, Tryz.f54, Tryz.func54, by kernel_rfl⟩
theorem ok_Pstrings_Builder_WriteString : OkF Tryz.prog fn_Pstrings_Builder_WriteString pf_Pstrings_Builder_WriteString := ⟨false, Tryz.f55, Tryz.func55, by kernel_rfl⟩
theorem ok_dump_word : OkF Tryz.prog fn_dump_word pf_dump_word := ⟨false, Tryz.f56, Tryz.func56, by kernel_rfl⟩
theorem ok_mail_Box_each : OkF Tryz.prog fn_mail_Box_each pf_mail_Box_each := ⟨false, Tryz.f57, Tryz.func57, by kernel_rfl⟩
theorem ok_slices_Clip_mail_Message_mail_Message : OkF Tryz.prog fn_slices_Clip_mail_Message_mail_Message pf_slices_Clip_mail_Message_mail_Message := ⟨false, Tryz.f58, Tryz.func58, by kernel_rfl⟩
theorem ok_strings_explode : OkF Tryz.prog fn_strings_explode pf_strings_explode := ⟨false, Tryz.f59, Tryz.func59, by kernel_rfl⟩
theorem ok_strings_Count : OkF Tryz.prog fn_strings_Count pf_strings_Count := ⟨false, Tryz.f60, Tryz.func60, by kernel_rfl⟩
theorem ok_strings_Index : OkF Tryz.prog fn_strings_Index pf_strings_Index := ⟨false, Tryz.f61, Tryz.func61, by kernel_rfl⟩
theorem ok_istringslite_HasSuffix : OkF Tryz.prog fn_istringslite_HasSuffix pf_istringslite_HasSuffix := ⟨false, Tryz.f62, Tryz.func62, by kernel_rfl⟩
theorem ok_istringslite_Index : OkF Tryz.prog fn_istringslite_Index pf_istringslite_Index := ⟨false, Tryz.f63, Tryz.func63, by kernel_rfl⟩
theorem ok_handle_Book_Issued : OkF Tryz.prog fn_handle_Book_Issued pf_handle_Book_Issued := ⟨false, Tryz.f64, Tryz.func64, by kernel_rfl⟩
theorem ok_handle_Book_Good : OkF Tryz.prog fn_handle_Book_Good pf_handle_Book_Good := ⟨false, Tryz.f65, Tryz.func65, by kernel_rfl⟩
theorem ok_table_Table_up : OkF Tryz.prog fn_table_Table_up pf_table_Table_up := ⟨false, Tryz.f66, Tryz.func66, by kernel_rfl⟩
theorem ok_forest_Root : OkF Tryz.prog fn_forest_Root pf_forest_Root := ⟨false, Tryz.f67, Tryz.func67, by kernel_rfl⟩
theorem ok_strings_Join : OkF Tryz.prog fn_strings_Join pf_strings_Join := ⟨false, Tryz.f68, Tryz.func68, by kernel_rfl⟩
theorem ok_table_quota : OkF Tryz.prog fn_table_quota pf_table_quota := ⟨false, Tryz.f69, Tryz.func69, by kernel_rfl⟩
theorem ok_handle_Book_Issue : OkF Tryz.prog fn_handle_Book_Issue pf_handle_Book_Issue := ⟨false, Tryz.f70, Tryz.func70, by kernel_rfl⟩
theorem ok_token_Tokens_those : OkF Tryz.prog fn_token_Tokens_those pf_token_Tokens_those := ⟨false, Tryz.f71, Tryz.func71, by kernel_rfl⟩
theorem ok_token_Tokens_Of_1 : OkF Tryz.prog fn_token_Tokens_Of_1 pf_token_Tokens_Of_1 := ⟨false, Tryz.f72, Tryz.func72, by kernel_rfl⟩
theorem ok_token_Tokens_may : OkF Tryz.prog fn_token_Tokens_may pf_token_Tokens_may := ⟨false, Tryz.f73, Tryz.func73, by kernel_rfl⟩
theorem ok_strconv_Itoa : OkF Tryz.prog fn_strconv_Itoa pf_strconv_Itoa := ⟨false, Tryz.f75, Tryz.func75, by kernel_rfl⟩
theorem ok_strconv_FormatUint : OkF Tryz.prog fn_strconv_FormatUint pf_strconv_FormatUint := ⟨false, Tryz.f76, Tryz.func76, by kernel_rfl⟩
theorem ok_mail_Box_each_1 : OkF Tryz.prog fn_mail_Box_each_1 pf_mail_Box_each_1 := ⟨false, Tryz.f77, Tryz.func77, by kernel_rfl⟩
theorem ok_mail_Box_at : OkF Tryz.prog fn_mail_Box_at pf_mail_Box_at := ⟨false, Tryz.f78, Tryz.func78, by kernel_rfl⟩
theorem ok_unicode_utf8_RuneCountInString : OkF Tryz.prog fn_unicode_utf8_RuneCountInString pf_unicode_utf8_RuneCountInString := ⟨false, Tryz.f79, Tryz.func79, by kernel_rfl⟩
theorem ok_unicode_utf8_DecodeRuneInString : OkF Tryz.prog fn_unicode_utf8_DecodeRuneInString pf_unicode_utf8_DecodeRuneInString := ⟨false, Tryz.f80, Tryz.func80, by kernel_rfl⟩
theorem ok_istringslite_IndexByte : OkF Tryz.prog fn_istringslite_IndexByte pf_istringslite_IndexByte := ⟨false, Tryz.f82, Tryz.func82, by kernel_rfl⟩
theorem ok_ibytealg_Cutover : OkF Tryz.prog fn_ibytealg_Cutover pf_ibytealg_Cutover := ⟨false, Tryz.f84, Tryz.func84, by kernel_rfl⟩
theorem ok_ibytealg_IndexRabinKarp_string : OkF Tryz.prog fn_ibytealg_IndexRabinKarp_string pf_ibytealg_IndexRabinKarp_string := ⟨false, Tryz.f85, Tryz.func85, by kernel_rfl⟩
theorem ok_handle_Book_At : OkF Tryz.prog fn_handle_Book_At pf_handle_Book_At := ⟨false, Tryz.f86, Tryz.func86, by kernel_rfl⟩
theorem ok_forest_above : OkF Tryz.prog fn_forest_above pf_forest_above := ⟨false, Tryz.f87, Tryz.func87, by kernel_rfl⟩
theorem ok_Pstrings_Builder_Grow : OkF Tryz.prog fn_Pstrings_Builder_Grow pf_Pstrings_Builder_Grow := ⟨false, Tryz.f88, Tryz.func88, by kernel_rfl⟩
theorem ok_handle_of : OkF Tryz.prog fn_handle_of pf_handle_of := ⟨false, Tryz.f89, Tryz.func89, by kernel_rfl⟩
theorem ok_token_Tokens_right : OkF Tryz.prog fn_token_Tokens_right pf_token_Tokens_right := ⟨false, Tryz.f90, Tryz.func90, by kernel_rfl⟩
theorem ok_token_Tokens_good : OkF Tryz.prog fn_token_Tokens_good pf_token_Tokens_good := ⟨false, Tryz.f91, Tryz.func91, by kernel_rfl⟩
theorem ok_istrconv_Itoa : OkF Tryz.prog fn_istrconv_Itoa pf_istrconv_Itoa := ⟨false, Tryz.f93, Tryz.func93, by kernel_rfl⟩
theorem ok_istrconv_FormatUint : OkF Tryz.prog fn_istrconv_FormatUint pf_istrconv_FormatUint := ⟨false, Tryz.f94, Tryz.func94, by kernel_rfl⟩
theorem ok_unicode_utf8_decodeRuneInStringSlow : OkF Tryz.prog fn_unicode_utf8_decodeRuneInStringSlow pf_unicode_utf8_decodeRuneInStringSlow := ⟨false, Tryz.f95, Tryz.func95, by kernel_rfl⟩
theorem ok_ibytealg_hashStr_string : OkF Tryz.prog fn_ibytealg_hashStr_string pf_ibytealg_hashStr_string := ⟨false, Tryz.f97, Tryz.func97, by kernel_rfl⟩
theorem ok_forest_above_1 : OkF Tryz.prog fn_forest_above_1 pf_forest_above_1 := ⟨false, Tryz.f98, Tryz.func98, by kernel_rfl⟩
theorem ok_token_Tokens_right_1 : OkF Tryz.prog fn_token_Tokens_right_1 pf_token_Tokens_right_1 := ⟨false, Tryz.f100, Tryz.func100, by kernel_rfl⟩
theorem ok_istrconv_FormatInt : OkF Tryz.prog fn_istrconv_FormatInt pf_istrconv_FormatInt := ⟨false, Tryz.f101, Tryz.func101, by kernel_rfl⟩
theorem ok_istrconv_small : OkF Tryz.prog fn_istrconv_small pf_istrconv_small := ⟨false, Tryz.f102, Tryz.func102, by kernel_rfl⟩
theorem ok_istrconv_numDigits : OkF Tryz.prog fn_istrconv_numDigits pf_istrconv_numDigits := ⟨false, Tryz.f103, Tryz.func103, by kernel_rfl⟩
theorem ok_istrconv_formatBase10 : OkF Tryz.prog fn_istrconv_formatBase10 pf_istrconv_formatBase10 := ⟨false, Tryz.f104, Tryz.func104, by kernel_rfl⟩
theorem ok_istrconv_formatBits : OkF Tryz.prog fn_istrconv_formatBits pf_istrconv_formatBits := ⟨false, Tryz.f105, Tryz.func105, by kernel_rfl⟩
theorem ok_istrconv_log10Pow2 : OkF Tryz.prog fn_istrconv_log10Pow2 pf_istrconv_log10Pow2 := ⟨false, Tryz.f107, Tryz.func107, by kernel_rfl⟩
theorem ok_math_bits_Len64 : OkF Tryz.prog fn_math_bits_Len64 pf_math_bits_Len64 := ⟨false, Tryz.f108, Tryz.func108, by kernel_rfl⟩
theorem ok_istrconv_bool2_int : OkF Tryz.prog fn_istrconv_bool2_int pf_istrconv_bool2_int := ⟨false, Tryz.f109, Tryz.func109, by kernel_rfl⟩
theorem ok_istrconv_isPowerOfTwo : OkF Tryz.prog fn_istrconv_isPowerOfTwo pf_istrconv_isPowerOfTwo := ⟨false, Tryz.f110, Tryz.func110, by kernel_rfl⟩
theorem ok_math_bits_TrailingZeros : OkF Tryz.prog fn_math_bits_TrailingZeros pf_math_bits_TrailingZeros := ⟨false, Tryz.f111, Tryz.func111, by kernel_rfl⟩
theorem ok_math_bits_TrailingZeros32 : OkF Tryz.prog fn_math_bits_TrailingZeros32 pf_math_bits_TrailingZeros32 := ⟨false, Tryz.f112, Tryz.func112, by kernel_rfl⟩
theorem ok_math_bits_TrailingZeros64 : OkF Tryz.prog fn_math_bits_TrailingZeros64 pf_math_bits_TrailingZeros64 := ⟨false, Tryz.f113, Tryz.func113, by kernel_rfl⟩
theorem ok_access_Who_owner : OkF Tryz.prog fn_access_Who_owner pf_access_Who_owner := ⟨false, Tryz.f133, Tryz.func133, by kernel_rfl⟩
theorem ok_Pmodel_caller_new : OkF Tryz.prog fn_Pmodel_caller_new pf_Pmodel_caller_new := ⟨false, Tryz.f142, Tryz.func142, by kernel_rfl⟩
theorem ok_Pmodel_caller_may : OkF Tryz.prog fn_Pmodel_caller_may pf_Pmodel_caller_may := ⟨false, Tryz.f163, Tryz.func163, by kernel_rfl⟩
theorem ok_forest_New : OkF Tryz.prog fn_forest_New pf_forest_New := ⟨false, Tryz.f164, Tryz.func164, by kernel_rfl⟩
theorem ok_model_fine : OkF Tryz.prog fn_model_fine pf_model_fine := ⟨false, Tryz.f165, Tryz.func165, by kernel_rfl⟩
theorem ok_Pmodel_caller_owns : OkF Tryz.prog fn_Pmodel_caller_owns pf_Pmodel_caller_owns := ⟨false, Tryz.f166, Tryz.func166, by kernel_rfl⟩
theorem ok_access_Who_May : OkF Tryz.prog fn_access_Who_May pf_access_Who_May := ⟨false, Tryz.f197, Tryz.func197, by kernel_rfl⟩
theorem ok_forest_Depth : OkF Tryz.prog fn_forest_Depth pf_forest_Depth := ⟨false, Tryz.f198, Tryz.func198, by kernel_rfl⟩
theorem ok_own_Owns_Give : OkF Tryz.prog fn_own_Owns_Give pf_own_Owns_Give := ⟨false, Tryz.f199, Tryz.func199, by kernel_rfl⟩
theorem ok_forest_Under : OkF Tryz.prog fn_forest_Under pf_forest_Under := ⟨false, Tryz.f207, Tryz.func207, by kernel_rfl⟩
theorem ok_own_Owns_say : OkF Tryz.prog fn_own_Owns_say pf_own_Owns_say := ⟨false, Tryz.f214, Tryz.func214, by kernel_rfl⟩
theorem ok_access_Who_lent : OkF Tryz.prog fn_access_Who_lent pf_access_Who_lent := ⟨false, Tryz.f225, Tryz.func225, by kernel_rfl⟩
theorem ok_access_Who_owner_1 : OkF Tryz.prog fn_access_Who_owner_1 pf_access_Who_owner_1 := ⟨false, Tryz.f226, Tryz.func226, by kernel_rfl⟩
theorem ok_token_Tokens_Reads : OkF Tryz.prog fn_token_Tokens_Reads pf_token_Tokens_Reads := ⟨false, Tryz.f227, Tryz.func227, by kernel_rfl⟩
theorem ok_access_Who_owner_2 : OkF Tryz.prog fn_access_Who_owner_2 pf_access_Who_owner_2 := ⟨false, Tryz.f228, Tryz.func228, by kernel_rfl⟩
theorem ok_token_Tokens_Writes : OkF Tryz.prog fn_token_Tokens_Writes pf_token_Tokens_Writes := ⟨false, Tryz.f229, Tryz.func229, by kernel_rfl⟩
theorem ok_access_Who_owner_3 : OkF Tryz.prog fn_access_Who_owner_3 pf_access_Who_owner_3 := ⟨false, Tryz.f230, Tryz.func230, by kernel_rfl⟩
theorem ok_slices_ContainsFunc_handle_Handle_handle_Handle : OkF Tryz.prog fn_slices_ContainsFunc_handle_Handle_handle_Handle pf_slices_ContainsFunc_handle_Handle_handle_Handle := ⟨false, Tryz.f231, Tryz.func231, by kernel_rfl⟩
theorem ok_access_Who_owner_3_1 : OkF Tryz.prog fn_access_Who_owner_3_1 pf_access_Who_owner_3_1 := ⟨false, Tryz.f232, Tryz.func232, by kernel_rfl⟩
theorem ok_token_Tokens_On : OkF Tryz.prog fn_token_Tokens_On pf_token_Tokens_On := ⟨false, Tryz.f233, Tryz.func233, by kernel_rfl⟩
theorem ok_slices_Collect_handle_Handle : OkF Tryz.prog fn_slices_Collect_handle_Handle pf_slices_Collect_handle_Handle := ⟨false, Tryz.f237, Tryz.func237, by kernel_rfl⟩
theorem ok_forest_under : OkF Tryz.prog fn_forest_under pf_forest_under := ⟨false, Tryz.f238, Tryz.func238, by kernel_rfl⟩
theorem ok_access_Who_lent_1 : OkF Tryz.prog fn_access_Who_lent_1 pf_access_Who_lent_1 := ⟨false, Tryz.f243, Tryz.func243, by kernel_rfl⟩
theorem ok_slices_IndexFunc_handle_Handle_handle_Handle : OkF Tryz.prog fn_slices_IndexFunc_handle_Handle_handle_Handle pf_slices_IndexFunc_handle_Handle_handle_Handle := ⟨false, Tryz.f244, Tryz.func244, by kernel_rfl⟩
theorem ok_token_Tokens_On_1 : OkF Tryz.prog fn_token_Tokens_On_1 pf_token_Tokens_On_1 := ⟨false, Tryz.f245, Tryz.func245, by kernel_rfl⟩
theorem ok_slices_AppendSeq_handle_Handle_handle_Handle : OkF Tryz.prog fn_slices_AppendSeq_handle_Handle_handle_Handle pf_slices_AppendSeq_handle_Handle_handle_Handle := ⟨false, Tryz.f248, Tryz.func248, by kernel_rfl⟩
theorem ok_forest_under_1 : OkF Tryz.prog fn_forest_under_1 pf_forest_under_1 := ⟨false, Tryz.f249, Tryz.func249, by kernel_rfl⟩
theorem ok_forest_Kids : OkF Tryz.prog fn_forest_Kids pf_forest_Kids := ⟨false, Tryz.f250, Tryz.func250, by kernel_rfl⟩
theorem ok_slices_Reverse_handle_Handle_handle_Handle : OkF Tryz.prog fn_slices_Reverse_handle_Handle_handle_Handle pf_slices_Reverse_handle_Handle_handle_Handle := ⟨false, Tryz.f251, Tryz.func251, by kernel_rfl⟩
theorem ok_slices_DeleteFunc_handle_Handle_handle_Handle : OkF Tryz.prog fn_slices_DeleteFunc_handle_Handle_handle_Handle pf_slices_DeleteFunc_handle_Handle_handle_Handle := ⟨false, Tryz.f252, Tryz.func252, by kernel_rfl⟩
theorem ok_forest_Kids_1 : OkF Tryz.prog fn_forest_Kids_1 pf_forest_Kids_1 := ⟨false, Tryz.f253, Tryz.func253, by kernel_rfl⟩

set_option maxRecDepth 100000 in
theorem codeT_ok : ∀ x ∈ codeT, OkF Tryz.prog x.1 x.2 := by
  unfold codeT
  simp only [List.forall_mem_cons]
  exact ⟨ok_law31_DiffTells, ok_law31_DiffBack, ok_law31_wakes, ok_diff_Diff, ok_ref31_Diff, ok_law31_same, ok_diff_Apart, ok_ref31_Apart, ok_diff_Effects, ok_diff_lines, ok_diff_some_string, ok_diff_Diff_1, ok_ref31_lines, ok_ref30_Key, ok_ref31_last, ok_diff_some_diff_Change, ok_diff_Apart_1, ok_trace_Replay, ok_model_Begin, ok_dump_State, ok_model_State_Do, ok_dump_Lines, ok_dump_Key, ok_ref30_Lines, ok_model_State_Needs, ok_Pdump_dumper_state, ok_Pstrings_Builder_String, ok_strings_Split, ok_strings_TrimSuffix, ok_strings_Cut, ok_Pdump_dumper_regions, ok_Pdump_dumper_tokens, ok_Pdump_dumper_line, ok_mail_Box_Closed, ok_mail_Box_All, ok_model_ask, ok_strings_genSplit, ok_istringslite_TrimSuffix, ok_istringslite_Cut, ok_table_book_All, ok_table_Table_Get, ok_own_Owns_Of, ok_dump_list_runs_Run, ok_dump_list_handle_Handle, ok_table_Table_New, ok_token_Tokens_Of, ok_handle_Handle_Slot, ok_token_Tokens_Get, ok_token_Tokens_Lend, ok_Pstrings_Builder_WriteByte, ok_Pstrings_Builder_WriteString, ok_dump_word, ok_mail_Box_each, ok_slices_Clip_mail_Message_mail_Message, ok_strings_explode, ok_strings_Count, ok_strings_Index, ok_istringslite_HasSuffix, ok_istringslite_Index, ok_handle_Book_Issued, ok_handle_Book_Good, ok_table_Table_up, ok_forest_Root, ok_strings_Join, ok_table_quota, ok_handle_Book_Issue, ok_token_Tokens_those, ok_token_Tokens_Of_1, ok_token_Tokens_may, ok_strconv_Itoa, ok_strconv_FormatUint, ok_mail_Box_each_1, ok_mail_Box_at, ok_unicode_utf8_RuneCountInString, ok_unicode_utf8_DecodeRuneInString, ok_istringslite_IndexByte, ok_ibytealg_Cutover, ok_ibytealg_IndexRabinKarp_string, ok_handle_Book_At, ok_forest_above, ok_Pstrings_Builder_Grow, ok_handle_of, ok_token_Tokens_right, ok_token_Tokens_good, ok_istrconv_Itoa, ok_istrconv_FormatUint, ok_unicode_utf8_decodeRuneInStringSlow, ok_ibytealg_hashStr_string, ok_forest_above_1, ok_token_Tokens_right_1, ok_istrconv_FormatInt, ok_istrconv_small, ok_istrconv_numDigits, ok_istrconv_formatBase10, ok_istrconv_formatBits, ok_istrconv_log10Pow2, ok_math_bits_Len64, ok_istrconv_bool2_int, ok_istrconv_isPowerOfTwo, ok_math_bits_TrailingZeros, ok_math_bits_TrailingZeros32, ok_math_bits_TrailingZeros64, ok_access_Who_owner, ok_Pmodel_caller_new, ok_Pmodel_caller_may, ok_forest_New, ok_model_fine, ok_Pmodel_caller_owns, ok_access_Who_May, ok_forest_Depth, ok_own_Owns_Give, ok_forest_Under, ok_own_Owns_say, ok_access_Who_lent, ok_access_Who_owner_1, ok_token_Tokens_Reads, ok_access_Who_owner_2, ok_token_Tokens_Writes, ok_access_Who_owner_3, ok_slices_ContainsFunc_handle_Handle_handle_Handle, ok_access_Who_owner_3_1, ok_token_Tokens_On, ok_slices_Collect_handle_Handle, ok_forest_under, ok_access_Who_lent_1, ok_slices_IndexFunc_handle_Handle_handle_Handle, ok_token_Tokens_On_1, ok_slices_AppendSeq_handle_Handle_handle_Handle, ok_forest_under_1, ok_forest_Kids, ok_slices_Reverse_handle_Handle_handle_Handle, ok_slices_DeleteFunc_handle_Handle_handle_Handle, ok_forest_Kids_1, by simp⟩

end Go.Proofs.YthbgjjdbcalhcaaGreatDoor
