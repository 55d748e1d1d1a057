/- The code of the law in compact form is what is made of the translated code (no conditions). -/
import Derived.Test.YtohnmnbdmcoflaaDoorDenC
import Derived.Test.YtohnmnbdmcoflaaDoorProg
import Derived.KernelRfl
set_option linter.unusedVariables false
set_option linter.unusedSimpArgs false
set_option linter.unusedSectionVars false
set_option linter.deprecated false

/- The compact code of the functions (written by a program; checked below). -/
namespace Go.Proofs.YtohnmnbdmcoflaaDoor
open Go Go.Den

def fn_law32_LinearWidens : Nat := 3
def fn_law32_wakes : Nat := 4
def fn_linear_Widen : Nat := 5
def fn_linear_Search : Nat := 6
def fn_slices_Clone_machine_Event_machine_Event : Nat := 7
def fn_linear_Search_1 : Nat := 8
def fn_linear_search : Nat := 9
def fn_linear_search_1 : Nat := 10
def fn_linear_search_2 : Nat := 11
def fn_linear_after : Nat := 12
def fn_model_Begin : Nat := 13
def fn_model_State_Needs : Nat := 14
def fn_model_State_Do : Nat := 15
def fn_Pmodel_caller_calls : Nat := 16
def fn_Pmodel_caller_calls_1 : Nat := 17
def fn_model_ask : Nat := 18
def fn_handle_Handle_Slot : Nat := 34
def fn_handle_Book_Issued : Nat := 37
def fn_table_book_All : Nat := 38
def fn_access_Who_owner : Nat := 42
def fn_Pmodel_caller_new : Nat := 46
def fn_Pmodel_caller_spawn : Nat := 66
def fn_Pmodel_caller_may : Nat := 67
def fn_forest_New : Nat := 68
def fn_model_fine : Nat := 69
def fn_Pmodel_caller_owns : Nat := 70
def fn_forest_Root : Nat := 82
def fn_handle_Book_Good : Nat := 90
def fn_own_Owns_Of : Nat := 91
def fn_token_Tokens_Get : Nat := 92
def fn_token_Tokens_those : Nat := 106
def fn_access_Who_May : Nat := 108
def fn_table_Table_New : Nat := 109
def fn_forest_Depth : Nat := 110
def fn_own_Owns_Give : Nat := 111
def fn_table_Table_Get : Nat := 113
def fn_forest_Under : Nat := 120
def fn_forest_above : Nat := 123
def fn_own_Owns_say : Nat := 128
def fn_handle_Book_Issue : Nat := 132
def fn_handle_Book_At : Nat := 136
def fn_access_Who_lent : Nat := 144
def fn_access_Who_owner_1 : Nat := 145
def fn_token_Tokens_Reads : Nat := 146
def fn_access_Who_owner_2 : Nat := 147
def fn_token_Tokens_Writes : Nat := 148
def fn_access_Who_owner_3 : Nat := 149
def fn_slices_ContainsFunc_handle_Handle_handle_Handle : Nat := 150
def fn_access_Who_owner_3_1 : Nat := 151
def fn_token_Tokens_On : Nat := 152
def fn_table_quota : Nat := 153
def fn_table_Table_up : Nat := 155
def fn_slices_Collect_handle_Handle : Nat := 158
def fn_forest_under : Nat := 159
def fn_forest_above_1 : Nat := 161
def fn_token_Tokens_right : Nat := 164
def fn_token_Tokens_good : Nat := 165
def fn_handle_of : Nat := 166
def fn_access_Who_lent_1 : Nat := 170
def fn_slices_IndexFunc_handle_Handle_handle_Handle : Nat := 171
def fn_token_Tokens_On_1 : Nat := 172
def fn_slices_AppendSeq_handle_Handle_handle_Handle : Nat := 175
def fn_forest_under_1 : Nat := 176
def fn_forest_Kids : Nat := 177
def fn_slices_Reverse_handle_Handle_handle_Handle : Nat := 178
def fn_token_Tokens_right_1 : Nat := 179
def fn_slices_DeleteFunc_handle_Handle_handle_Handle : Nat := 181
def fn_forest_Kids_1 : Nat := 182
def ty_int : Nat := 3
def ty_bool : Nat := 4
def ty_handle_Handle : Nat := 25
def ty_api_Errno : Nat := 31
def ty_machine_Event : Nat := 35
def ty_linear_open : Nat := 43
def g_model_does : Nat := 0
def repL (n : Nat) (l : List AV) : List AV := (List.replicate n l).flatten
def z128_8087 : List AV := repL 32 [(.int .u32 0), (.int .u8 0), (.int .u8 0), (.int .u8 0)]
def z480_3a0d : List AV := repL 32 [(.int .u32 0), (.bool false), (.bool false)] ++ repL 32 [(.int .u32 0), (.int .i64 0), .nils, (.int .i64 0), (.int .u32 0), (.int .u32 0), (.int .u32 0), (.int .u32 0), (.int .u32 0), (.int .u32 0), (.int .u32 0), (.int .u32 0)]
def z952_2fb3 : List AV := repL 32 [(.int .u32 0), (.bool false), (.bool false)] ++ repL 32 [(.int .u32 0), (.int .i64 0), .nils, (.int .i64 0), (.int .u32 0), (.int .u32 0), (.int .u32 0), (.int .u32 0), (.int .u32 0), (.int .u32 0), (.int .u32 0), (.int .u32 0)] ++ repL 32 [(.int .u32 0), (.int .u8 0), (.int .u8 0), (.int .u8 0)] ++ repL 32 [(.int .u32 0), (.bool false), (.bool false)] ++ repL 16 [(.int .u32 0), (.int .u8 0), (.int .u8 0), (.bool false), (.int .u32 0)] ++ repL 4 [(.int .u8 0), (.int .u64 0), (.int .u32 0), (.bool false)] ++ [(.int .i64 0), (.int .i64 0)] ++ repL 4 [(.bool false), (.int .u8 0), (.int .u64 0), (.int .u32 0)] ++ [(.bool false), (.int .i64 0), (.int .i64 0)] ++ repL 4 [(.bool false), (.int .u8 0), (.int .u64 0), (.int .u32 0)] ++ [(.bool false), (.int .i64 0), (.int .i64 0)] ++ repL 4 [(.bool false), (.int .u8 0), (.int .u64 0), (.int .u32 0)] ++ [(.bool false), (.int .i64 0), (.int .i64 0)] ++ repL 4 [(.bool false), (.int .u8 0), (.int .u64 0), (.int .u32 0)] ++ [(.bool false), (.int .i64 0), (.int .i64 0)] ++ repL 4 [(.bool false), (.int .u8 0), (.int .u64 0), (.int .u32 0)] ++ [(.bool false), (.int .i64 0), (.int .i64 0)] ++ repL 4 [(.bool false), (.int .u8 0), (.int .u64 0), (.int .u32 0)] ++ [(.bool false), (.int .i64 0), (.int .i64 0)] ++ repL 4 [(.bool false), (.int .u8 0), (.int .u64 0), (.int .u32 0)] ++ [(.bool false), (.int .i64 0), (.int .i64 0)] ++ repL 17 [(.bool false)]
def z964_ded6 : List AV := repL 32 [(.int .u32 0), (.bool false), (.bool false)] ++ repL 32 [(.int .u32 0), (.int .i64 0), .nils, (.int .i64 0), (.int .u32 0), (.int .u32 0), (.int .u32 0), (.int .u32 0), (.int .u32 0), (.int .u32 0), (.int .u32 0), (.int .u32 0)] ++ repL 32 [(.int .u32 0), (.int .u8 0), (.int .u8 0), (.int .u8 0)] ++ repL 32 [(.int .u32 0), (.bool false), (.bool false)] ++ repL 16 [(.int .u32 0), (.int .u8 0), (.int .u8 0), (.bool false), (.int .u32 0)] ++ repL 4 [(.int .u8 0), (.int .u64 0), (.int .u32 0), (.bool false)] ++ [(.int .i64 0), (.int .i64 0)] ++ repL 4 [(.bool false), (.int .u8 0), (.int .u64 0), (.int .u32 0)] ++ [(.bool false), (.int .i64 0), (.int .i64 0)] ++ repL 4 [(.bool false), (.int .u8 0), (.int .u64 0), (.int .u32 0)] ++ [(.bool false), (.int .i64 0), (.int .i64 0)] ++ repL 4 [(.bool false), (.int .u8 0), (.int .u64 0), (.int .u32 0)] ++ [(.bool false), (.int .i64 0), (.int .i64 0)] ++ repL 4 [(.bool false), (.int .u8 0), (.int .u64 0), (.int .u32 0)] ++ [(.bool false), (.int .i64 0), (.int .i64 0)] ++ repL 4 [(.bool false), (.int .u8 0), (.int .u64 0), (.int .u32 0)] ++ [(.bool false), (.int .i64 0), (.int .i64 0)] ++ repL 4 [(.bool false), (.int .u8 0), (.int .u64 0), (.int .u32 0)] ++ [(.bool false), (.int .i64 0), (.int .i64 0)] ++ repL 4 [(.bool false), (.int .u8 0), (.int .u64 0), (.int .u32 0)] ++ [(.bool false), (.int .i64 0), (.int .i64 0)] ++ repL 17 [(.bool false)] ++ [(.int .i64 0), (.int .u8 0)] ++ repL 4 [(.int .u32 0)] ++ [(.int .u64 0)] ++ repL 3 [(.int .i64 0)] ++ [(.bool false), .nils]
def z96_9863 : List AV := repL 32 [(.int .u32 0), (.bool false), (.bool false)]

def l2_law32_LinearWidens : PC :=
  (.seq (.seq (.reg [o 64 (.mov (.t 8)), o 65 (.mov (.t 0)), o 66 (.len .sl (.t 65)), o 67 (.bin .lss (.t 64) (.t 66))])
  (.cond (.t 67) .skip (.exit 2)))
  (.seq (.block 3 (.seq (.reg [o 70 (.mov (.t 0)), o 71 (.mov (.t 8)), o 72 (.iaddrs 14 (.t 70) (.t 71)), o 73 (.load true 14 (.t 72)), o 9 (.alloc [(.int .i64 0), (.int .u8 0), (.int .u32 0), (.int .u32 0), (.int .u32 0), (.int .u32 0), (.int .u64 0), (.int .i64 0), (.int .i64 0), (.int .i64 0), (.int .u64 0), (.int .u32 0), (.int .i64 0), (.int .i64 0)] none), u (.store 14 (.t 9) (.t 73))])
    (.seq (.reg [o 74 (.faddr 12 (.t 9)), o 75 (.load false 1 (.t 74)), o 76 (.mov (.t 7)), o 77 (.bin .sub (.t 75) (.t 76)), o 78 (.faddr 12 (.t 9)), u (.store 1 (.t 78) (.t 77))])
    (.seq (.reg [o 79 (.faddr 13 (.t 9)), o 80 (.load false 1 (.t 79)), o 81 (.mov (.t 7)), o 82 (.bin .add (.t 80) (.t 81)), o 83 (.faddr 13 (.t 9)), u (.store 1 (.t 83) (.t 82))])
    (.seq (.dreg [(o 84 (.mov (.t 6)), []), (o 85 (.mov (.t 8)), []), (o 86 (.iaddrs 14 (.t 84) (.t 85)), []), (o 87 (.load true 14 (.t 86)), []), (o 88 (.load true 14 (.t 9)), [3]), (o 89 (.ne (.agg [.int, .int, .int, .int, .int, .int, .int, .int, .int, .int, .int, .int, .int, .int]) (.t 87) (.t 88)), [])])
    (.cond (.t 89) (.seq (.reg [o 4 (.mov (.c (.bool false)))])
      .ret) .skip))))))
  (.reg [o 68 (.mov (.t 8)), o 69 (.bin .add (.t 68) (ci 1)), o 8 (.mov (.t 69))])))
def l1_law32_LinearWidens : PC :=
  (.seq (.seq (.reg [o 14 (.mov (.t 5)), o 15 (.mov (.t 0)), o 16 (.len .sl (.t 15)), o 17 (.bin .lss (.t 14) (.t 16))])
  (.cond (.t 17) .skip (.exit 0)))
  (.seq (.block 1 (.seq (.reg [o 20 (.mov (.t 0)), o 21 (.mov (.t 5)), o 22 (.iaddrs 14 (.t 20) (.t 21)), o 23 (.faddr 12 (.t 22)), o 24 (.load false 1 (.t 23)), o 25 (.bin .lss (.t 24) (ci (-1000000))), o 26 (.mov (.t 25)), gf 26 (some 27) (.mov (.t 0)), gf 26 (some 28) (.mov (.t 5)), gf 26 (some 29) (.iaddrs 14 (.t 27) (.t 28)), gf 26 (some 30) (.faddr 12 (.t 29)), gf 26 (some 31) (.load false 1 (.t 30)), gf 26 (some 32) (.bin .gtr (.t 31) (ci 1000000)), o 33 (.pick (.t 26) (.c (.bool true)) (.t 32)), o 34 (.mov (.t 33)), gf 34 (some 35) (.mov (.t 0)), gf 34 (some 36) (.mov (.t 5)), gf 34 (some 37) (.iaddrs 14 (.t 35) (.t 36)), gf 34 (some 38) (.faddr 13 (.t 37)), gf 34 (some 39) (.load false 1 (.t 38)), gf 34 (some 40) (.bin .lss (.t 39) (ci (-1000000))), o 41 (.pick (.t 34) (.c (.bool true)) (.t 40)), o 42 (.mov (.t 41)), gf 42 (some 43) (.mov (.t 0)), gf 42 (some 44) (.mov (.t 5)), gf 42 (some 45) (.iaddrs 14 (.t 43) (.t 44)), gf 42 (some 46) (.faddr 13 (.t 45)), gf 42 (some 47) (.load false 1 (.t 46)), gf 42 (some 48) (.bin .gtr (.t 47) (ci 1000000)), o 49 (.pick (.t 42) (.c (.bool true)) (.t 48))])
    (.cond (.t 49) (.seq (.reg [o 50 (.call (cf fn_law32_wakes) []), o 4 (.mov (.t 50))])
      .ret) .skip)))
  (.reg [o 18 (.mov (.t 5)), o 19 (.bin .add (.t 18) (ci 1)), o 5 (.mov (.t 19))])))
def pf_law32_LinearWidens : PF := ⟨91, [.t 4],
  (.seq (.reg [o 4 (.mov (.c (.bool false)))])
  (.seq (.seq (.reg [o 10 (.mov (.t 0)), o 11 (.len .sl (.t 10)), o 12 (.bin .gtr (.t 11) (ci 100))])
  (.cond (.t 12) (.seq (.reg [o 13 (.call (cf fn_law32_wakes) []), o 4 (.mov (.t 13))])
    .ret) .skip))
  (.seq (.seq (.reg [o 5 (.mov (ci 0))])
  (.block 0 (.loop l1_law32_LinearWidens)))
  (.seq (.reg [o 51 (.mov (.t 0)), o 52 (.mov (.t 1)), o 53 (.call (cf fn_linear_Widen) [(.t 51), (.t 52)]), o 6 (.mov (.t 53))])
  (.seq (.seq (.reg [o 54 (.mov (.t 6)), o 55 (.len .sl (.t 54)), o 56 (.mov (.t 0)), o 57 (.len .sl (.t 56)), o 58 (.ne .int (.t 55) (.t 57))])
  (.cond (.t 58) (.seq (.reg [o 4 (.mov (.c (.bool false)))])
    .ret) .skip))
  (.seq (.reg [o 59 (.mov (.t 1)), o 7 (.mov (.t 59))])
  (.seq (.seq (.reg [o 60 (.mov (.t 7)), o 61 (.bin .lss (.t 60) (ci 0))])
  (.cond (.t 61) (.reg [o 7 (.mov (ci 0))]) .skip))
  (.seq (.seq (.reg [o 62 (.mov (.t 7)), o 63 (.bin .gtr (.t 62) (ci 100000))])
  (.cond (.t 63) (.reg [o 7 (.mov (ci 100000))]) .skip))
  (.seq (.seq (.reg [o 8 (.mov (ci 0))])
  (.block 2 (.loop l2_law32_LinearWidens)))
  (.seq (.reg [o 90 (.call (cf fn_law32_wakes) []), o 4 (.mov (.t 90))])
  .ret))))))))))⟩

def pf_law32_wakes : PF := ⟨87, [.t 0],
  (.seq (.reg [o 0 (.mov (.c (.bool false)))])
  (.seq (.reg [o 11 (.build [(.int .u8 0), (.int .u32 0), (.int .u32 0), (.int .u32 0), (.int .u32 0), (.int .u64 0)] [(0, 1, (.c (.int .u8 1)))]), o 12 (.build [(.int .i64 0), (.int .u64 0), (.int .u32 0)] [(2, 1, (.c (.int .u32 2)))]), o 13 (.build [(.int .i64 0), (.int .u8 0), (.int .u32 0), (.int .u32 0), (.int .u32 0), (.int .u32 0), (.int .u64 0), (.int .i64 0), (.int .i64 0), (.int .i64 0), (.int .u64 0), (.int .u32 0), (.int .i64 0), (.int .i64 0)] [(0, 1, (ci 1)), (1, 6, (.t 11)), (9, 3, (.t 12)), (12, 1, (ci 5)), (13, 1, (ci 9))]), o 14 (.build [(.int .u8 0), (.int .u32 0), (.int .u32 0), (.int .u32 0), (.int .u32 0), (.int .u64 0)] [(0, 1, (.c (.int .u8 1)))]), o 15 (.build [(.int .i64 0), (.int .u64 0), (.int .u32 0)] [(2, 1, (.c (.int .u32 1)))]), o 16 (.build [(.int .i64 0), (.int .u8 0), (.int .u32 0), (.int .u32 0), (.int .u32 0), (.int .u32 0), (.int .u64 0), (.int .i64 0), (.int .i64 0), (.int .i64 0), (.int .u64 0), (.int .u32 0), (.int .i64 0), (.int .i64 0)] [(1, 6, (.t 14)), (9, 3, (.t 15)), (12, 1, (ci 5)), (13, 1, (ci 9))]), o 17 (.build [(.int .u8 0), (.int .u32 0), (.int .u32 0), (.int .u32 0), (.int .u32 0), (.int .u64 0)] [(0, 1, (.c (.int .u8 22))), (3, 1, (.c (.int .u32 1)))]), o 18 (.build [(.int .i64 0), (.int .u8 0), (.int .u32 0), (.int .u32 0), (.int .u32 0), (.int .u32 0), (.int .u64 0), (.int .i64 0), (.int .i64 0), (.int .i64 0), (.int .u64 0), (.int .u32 0), (.int .i64 0), (.int .i64 0)] [(1, 6, (.t 17)), (12, 1, (ci 1)), (13, 1, (ci 2))]), o 19 (.brow ty_machine_Event [(.int .i64 0), (.int .u8 0), (.int .u32 0), (.int .u32 0), (.int .u32 0), (.int .u32 0), (.int .u64 0), (.int .i64 0), (.int .i64 0), (.int .i64 0), (.int .u64 0), (.int .u32 0), (.int .i64 0), (.int .i64 0)] 3 [(0, 14, (.t 13)), (14, 14, (.t 16)), (28, 14, (.t 18))]), o 1 (.mov (.t 19))])
  (.seq (.reg [o 21 (.mov (.t 1)), o 22 (.call (cf fn_linear_Search) [(.t 21), (ci 100)]), o 20 (.mov (.t 22)), o 23 (.ext (.t 20) 0), o 24 (.ext (.t 20) 1), o 25 (.ext (.t 20) 2), o 2 (.mov (.t 23)), o 3 (.mov (.t 24)), o 4 (.mov (.t 25))])
  (.seq (.reg [o 27 (.mov (.t 1)), o 28 (.call (cf fn_linear_Search) [(.t 27), (ci 2)]), o 26 (.mov (.t 28)), o 29 (.ext (.t 26) 0), o 30 (.ext (.t 26) 1), o 31 (.ext (.t 26) 2), o 5 (.mov (.t 29)), o 6 (.mov (.t 30)), o 7 (.mov (.t 31))])
  (.seq (.reg [o 32 (.mov (.t 1)), o 33 (.iaddrs 14 (.t 32) (ci 1)), o 34 (.faddr 9 (.t 33)), o 35 (.faddr 2 (.t 34)), u (.store 1 (.t 35) (.c (.int .u32 3)))])
  (.seq (.reg [o 37 (.mov (.t 1)), o 38 (.call (cf fn_linear_Search) [(.t 37), (ci 100)]), o 36 (.mov (.t 38)), o 39 (.ext (.t 36) 0), o 40 (.ext (.t 36) 1), o 41 (.ext (.t 36) 2), o 8 (.mov (.t 39)), o 9 (.mov (.t 40)), o 10 (.mov (.t 41))])
  (.seq (.reg [o 42 (.mov (.t 4)), o 43 (.eq .int (.t 42) (ci 0)), o 44 (.mov (.t 43)), gt 44 (some 45) (.mov (.t 3)), gt 44 (some 46) (.eq .int (.t 45) (.c (.int .u8 0))), o 47 (.pick (.t 44) (.t 46) (.c (.bool false))), o 48 (.mov (.t 47)), gt 48 (some 49) (.mov (.t 2)), gt 48 (some 50) (.len .sl (.t 49)), gt 48 (some 51) (.eq .int (.t 50) (ci 3)), o 52 (.pick (.t 48) (.t 51) (.c (.bool false))), o 53 (.mov (.t 52)), gt 53 (some 54) (.mov (.t 2)), gt 53 (some 55) (.iaddrs 1 (.t 54) (ci 0)), gt 53 (some 56) (.load false 1 (.t 55)), gt 53 (some 57) (.eq .int (.t 56) (ci 2)), o 58 (.pick (.t 53) (.t 57) (.c (.bool false))), o 59 (.mov (.t 58)), gt 59 (some 60) (.mov (.t 2)), gt 59 (some 61) (.iaddrs 1 (.t 60) (ci 1)), gt 59 (some 62) (.load false 1 (.t 61)), gt 59 (some 63) (.eq .int (.t 62) (ci 1)), o 64 (.pick (.t 59) (.t 63) (.c (.bool false))), o 65 (.mov (.t 64)), gt 65 (some 66) (.mov (.t 2)), gt 65 (some 67) (.iaddrs 1 (.t 66) (ci 2)), gt 65 (some 68) (.load false 1 (.t 67)), gt 65 (some 69) (.eq .int (.t 68) (ci 0)), o 70 (.pick (.t 65) (.t 69) (.c (.bool false))), o 71 (.mov (.t 70)), gt 71 (some 72) (.mov (.t 7)), gt 71 (some 73) (.eq .int (.t 72) (ci 0)), o 74 (.pick (.t 71) (.t 73) (.c (.bool false))), o 75 (.mov (.t 74)), gt 75 (some 76) (.mov (.t 6)), gt 75 (some 77) (.eq .int (.t 76) (.c (.int .u8 2))), o 78 (.pick (.t 75) (.t 77) (.c (.bool false))), o 79 (.mov (.t 78)), gt 79 (some 80) (.mov (.t 10)), gt 79 (some 81) (.eq .int (.t 80) (ci 0)), o 82 (.pick (.t 79) (.t 81) (.c (.bool false))), o 83 (.mov (.t 82)), gt 83 (some 84) (.mov (.t 9)), gt 83 (some 85) (.eq .int (.t 84) (.c (.int .u8 1))), o 86 (.pick (.t 83) (.t 85) (.c (.bool false))), o 0 (.mov (.t 86))])
  .ret)))))))⟩

def l1_linear_Widen : PC :=
  (.seq (.reg [o 15 (.bin .lss (.t 14) (.t 13))])
  (.seq (.cond (.t 15) .skip (.exit 0))
  (.seq (.block 1 (.seq (.reg [o 16 (.mov (.t 14)), o 6 (.mov (.t 16))])
    (.seq (.reg [o 17 (.mov (.t 5)), o 18 (.mov (.t 6)), o 19 (.iaddrs 14 (.t 17) (.t 18)), o 20 (.faddr 12 (.t 19)), o 21 (.load false 1 (.t 20)), o 22 (.mov (.t 1)), o 23 (.bin .sub (.t 21) (.t 22)), o 24 (.iaddrs 14 (.t 17) (.t 18)), o 25 (.faddr 12 (.t 24)), u (.store 1 (.t 25) (.t 23))])
    (.reg [o 26 (.mov (.t 5)), o 27 (.mov (.t 6)), o 28 (.iaddrs 14 (.t 26) (.t 27)), o 29 (.faddr 13 (.t 28)), o 30 (.load false 1 (.t 29)), o 31 (.mov (.t 1)), o 32 (.bin .add (.t 30) (.t 31)), o 33 (.iaddrs 14 (.t 26) (.t 27)), o 34 (.faddr 13 (.t 33)), u (.store 1 (.t 34) (.t 32))]))))
  (.reg [o 35 (.bin .add (.t 14) (ci 1)), o 14 (.mov (.t 35))]))))
def pf_linear_Widen : PF := ⟨37, [.t 4],
  (.seq (.reg [o 4 (.mov (.c .nils))])
  (.seq (.reg [o 7 (.mov (.t 1)), o 8 (.max [(.t 7), (ci 0)]), o 9 (.min [(.t 8), (ci 100000)]), o 1 (.mov (.t 9))])
  (.seq (.reg [o 10 (.mov (.t 0)), o 11 (.call (cf fn_slices_Clone_machine_Event_machine_Event) [(.t 10)]), o 5 (.mov (.t 11))])
  (.seq (.seq (.reg [o 12 (.mov (.t 5)), o 13 (.len .sl (.t 12)), o 14 (.mov (ci 0))])
  (.block 0 (.loop l1_linear_Widen)))
  (.seq (.reg [o 36 (.mov (.t 5)), o 4 (.mov (.t 36))])
  .ret)))))⟩

def pd_linear_Search : PDef := ⟨30, [.cell 4 false 1, .cell 5 false 1, .t 6],
  (.later (.reg [o 4 (.alloc [.nils] none), o 5 (.alloc [(.int .u8 0)] none), o 6 (.mov (ci 0))])
  (.later (.block 0 (.seq (.reg [o 10 (.mov (.t 1)), o 11 (.bin .lss (.t 10) (ci 0)), o 12 (.mov (.t 11)), gf 12 (some 13) (.mov (.t 1)), gf 12 (some 14) (.bin .gtr (.t 13) (ci 100000)), o 15 (.pick (.t 12) (.c (.bool true)) (.t 14)), o 9 (.mov (.t 15))])
    (.cond (.t 9) (.seq (.reg [u (.store 1 (.t 4) (.c .nils)), u (.store 1 (.t 5) (.c (.int .u8 0))), o 6 (.mov (ci 2))])
      .ret) (.seq (.reg [o 17 (.mov (.t 0)), o 18 (.len .sl (.t 17)), o 19 (.bin .gtr (.t 18) (ci 200)), o 16 (.mov (.t 19))])
      (.cond (.t 16) (.seq (.reg [u (.store 1 (.t 4) (.c .nils)), u (.store 1 (.t 5) (.c (.int .u8 0))), o 6 (.mov (ci 8))])
        .ret) .skip)))))
  (.here [o 20 (.mkf (.func fn_linear_Search_1) [] [(.t 4), (.t 5)])] (.t 20) []
  (.seq (.reg [o 22 (.mov (.t 0)), o 23 (.mov (.t 1)), o 24 (.call (cf fn_linear_search) [(.t 22), (.t 23)]), o 21 (.mov (.t 24)), o 25 (.ext (.t 21) 0), o 26 (.ext (.t 21) 1), o 7 (.mov (.t 25)), o 8 (.mov (.t 26))])
  (.seq (.seq (.reg [o 27 (.mov (.t 8)), o 28 (.un .not (.t 27))])
  (.cond (.t 28) (.seq (.reg [u (.store 1 (.t 4) (.c .nils)), u (.store 1 (.t 5) (.c (.int .u8 1))), o 6 (.mov (ci 0))])
    .ret) .skip))
  (.seq (.reg [o 29 (.mov (.t 7)), u (.store 1 (.t 4) (.t 29)), u (.store 1 (.t 5) (.c (.int .u8 0))), o 6 (.mov (ci 0))])
  .ret))))))⟩

def pf_slices_Clone_machine_Event_machine_Event : PF := ⟨8, [.t 2],
  (.seq (.reg [o 2 (.mov (.c .nils))])
  (.seq (.seq (.reg [o 3 (.mov (.t 0)), o 4 (.eq .sl (.t 3) (.c .nils))])
  (.cond (.t 4) (.seq (.reg [o 2 (.mov (.c .nils))])
    .ret) .skip))
  (.seq (.reg [o 5 (.bslice [(.int .i64 0), (.int .u8 0), (.int .u32 0), (.int .u32 0), (.int .u32 0), (.int .u32 0), (.int .u64 0), (.int .i64 0), (.int .i64 0), (.int .i64 0), (.int .u64 0), (.int .u32 0), (.int .i64 0), (.int .i64 0)] 0 []), o 6 (.mov (.t 0)), o 7 (.append ty_machine_Event 14 96 (.t 5) (.t 6)), o 2 (.mov (.t 7))])
  .ret)))⟩

def pr_linear_Search_1 : PRec := ⟨5, ⟨16, [],
  (.seq (.reg [o 2 (.mov (.t 5))])
  (.seq (.reg [o 6 (.mov (.t 2)), o 7 (.ne .ifc (.t 6) (.c .nili))])
  (.cond (.t 7) (.seq (.seq (.reg [o 9 (.mov (.t 2)), o 10 (.ta (.agg []) (.t 9) ty_linear_open true), o 8 (.mov (.t 10)), o 11 (.ext (.t 8) 0), o 12 (.ext (.t 8) 1), o 3 (.alloc [] none), u (.store 0 (.t 3) (.t 11)), o 4 (.mov (.t 12))])
    (.seq (.reg [o 13 (.mov (.t 4)), o 14 (.un .not (.t 13))])
    (.cond (.t 14) (.reg [o 15 (.mov (.t 2)), u (.panic (.t 15))]) .skip)))
    (.reg [u (.store 1 (.t 0) (.c .nils)), u (.store 1 (.t 1) (.c (.int .u8 2)))])) .skip)))⟩⟩

def pf_linear_search : PF := ⟨19, [.cell 4 false 1, .t 5],
  (.seq (.reg [o 2 (.box (.t 0)), o 3 (.box (.t 1)), o 4 (.alloc [.nils] none), o 5 (.mov (.c (.bool false)))])
  (.seq (.reg [o 9 (.load false 1 (.t 2)), o 10 (.len .sl (.t 9)), o 11 (.mkslice ty_bool [(.bool false)] 1 (.t 10) (.t 10)), o 6 (.alloc [.nils] none), u (.store 1 (.t 6) (.t 11))])
  (.seq (.reg [o 12 (.mkf (.func fn_linear_search_1) [] [(.t 2), (.t 6)]), o 7 (.alloc [.nilf] none), u (.store 1 (.t 7) (.t 12))])
  (.seq (.reg [o 8 (.alloc [.nilf] none)])
  (.seq (.reg [o 13 (.mkf (.func fn_linear_search_2) [] [(.t 4), (.t 2), (.t 7), (.t 3), (.t 6), (.t 8)]), u (.store 1 (.t 8) (.t 13))])
  (.seq (.dreg [(o 14 (.load false 1 (.t 8)), []), (o 15 (.call (cf fn_model_Begin) []), [0]), (o 16 (.call (.t 14) [(.t 15)]), []), (o 5 (.mov (.t 16)), [])])
  (.seq (.reg [o 17 (.load false 1 (.t 4)), o 18 (.mov (.t 5)), u (.store 1 (.t 4) (.t 17)), o 5 (.mov (.t 18))])
  .ret)))))))⟩

def l1_linear_search_1 : PC :=
  (.seq (.reg [o 9 (.bin .lss (.t 8) (.t 7))])
  (.seq (.cond (.t 9) .skip (.exit 0))
  (.seq (.block 1 (.seq (.reg [o 10 (.mov (.t 8)), o 5 (.mov (.t 10))])
    (.seq (.dreg [(o 11 (.load false 1 (.t 2)), []), (o 12 (.mov (.t 5)), []), (o 13 (.iaddrs 1 (.t 11) (.t 12)), []), (o 14 (.load false 1 (.t 13)), []), (o 15 (.un .not (.t 14)), []), (o 16 (.mov (.t 15)), []), (gt 16 (some 17) (.mov (.t 5)), []), (gt 16 (some 18) (.mov (.t 0)), []), (gt 16 (some 19) (.ne .int (.t 17) (.t 18)), []), (o 20 (.pick (.t 16) (.t 19) (.c (.bool false))), []), (o 21 (.mov (.t 20)), []), (gt 21 (some 22) (.load false 1 (.t 1)), []), (gt 21 (some 23) (.mov (.t 5)), []), (gt 21 (some 24) (.iaddrs 14 (.t 22) (.t 23)), []), (gt 21 (some 25) (.faddr 13 (.t 24)), []), (gt 21 (some 26) (.load false 1 (.t 25)), []), (gt 21 (some 27) (.load false 1 (.t 1)), [11, 15]), (gt 21 (some 28) (.mov (.t 0)), []), (gt 21 (some 29) (.iaddrs 14 (.t 27) (.t 28)), []), (gt 21 (some 30) (.faddr 12 (.t 29)), []), (gt 21 (some 31) (.load false 1 (.t 30)), [11, 15]), (gt 21 (some 32) (.bin .lss (.t 26) (.t 31)), []), (o 33 (.pick (.t 21) (.t 32) (.c (.bool false))), [])])
    (.cond (.t 33) (.seq (.reg [o 4 (.mov (.c (.bool false)))])
      .ret) .skip))))
  (.reg [o 34 (.bin .add (.t 8) (ci 1)), o 8 (.mov (.t 34))]))))
def pf_linear_search_1 : PF := ⟨40, [.t 4],
  (.seq (.reg [o 4 (.mov (.c (.bool false)))])
  (.seq (.seq (.reg [o 6 (.load false 1 (.t 1)), o 7 (.len .sl (.t 6)), o 8 (.mov (ci 0))])
  (.block 0 (.loop l1_linear_search_1)))
  (.seq (.reg [o 35 (.load false 1 (.t 2)), o 36 (.mov (.t 0)), o 37 (.iaddrs 1 (.t 35) (.t 36)), o 38 (.load false 1 (.t 37)), o 39 (.un .not (.t 38)), o 4 (.mov (.t 39))])
  .ret)))⟩

def l1_linear_search_2 : PC :=
  (.seq (.reg [o 20 (.bin .lss (.t 19) (.t 18))])
  (.seq (.cond (.t 20) .skip (.exit 0))
  (.seq (.block 1 (.seq (.reg [o 21 (.mov (.t 19)), o 9 (.mov (.t 21))])
    (.seq (.seq (.reg [o 22 (.load false 1 (.t 3)), o 23 (.mov (.t 9)), o 24 (.call (.t 22) [(.t 23)]), o 25 (.un .not (.t 24))])
    (.cond (.t 25) (.exit 1) .skip))
    (.seq (.seq (.reg [o 26 (.load false 1 (.t 4)), o 27 (.eq .int (.t 26) (ci 0))])
    (.cond (.t 27) (.reg [o 28 (.build [] []), o 29 (.mki ty_linear_open (.t 28)), u (.panic (.t 29))]) .skip))
    (.seq (.reg [o 30 (.load false 1 (.t 4)), o 31 (.bin .sub (.t 30) (ci 1)), u (.store 1 (.t 4) (.t 31))])
    (.seq (.dreg [(o 33 (.load true 952 (.t 7)), []), (o 34 (.load false 1 (.t 2)), [0]), (o 35 (.mov (.t 9)), []), (o 36 (.iaddrs 14 (.t 34) (.t 35)), []), (o 37 (.load true 14 (.t 36)), [0]), (o 38 (.call (cf fn_linear_after) [(.t 33), (.t 37)]), []), (o 32 (.mov (.t 38)), []), (o 39 (.ext (.t 32) 0), []), (o 40 (.ext (.t 32) 1), []), (o 10 (.alloc z952_2fb3 none), [0, 1, 4, 5]), (u (.store 952 (.t 10) (.t 39)), []), (o 11 (.mov (.t 40)), [])])
    (.seq (.seq (.reg [o 41 (.mov (.t 11)), o 42 (.un .not (.t 41))])
    (.cond (.t 42) (.exit 1) .skip))
    (.seq (.dreg [(o 43 (.load false 1 (.t 5)), []), (o 44 (.mov (.t 9)), []), (o 45 (.load false 1 (.t 1)), [0]), (o 46 (.mov (.t 9)), []), (o 47 (.bslice [(.int .i64 0)] 1 [(0, 1, (.t 46))]), []), (o 48 (.append ty_int 1 8 (.t 45) (.t 47)), [0]), (o 49 (.iaddrs 1 (.t 43) (.t 44)), []), (u (.store 1 (.t 49) (.c (.bool true))), []), (u (.store 1 (.t 1) (.t 48)), [])])
    (.seq (.seq (.reg [o 50 (.load false 1 (.t 6)), o 51 (.load true 952 (.t 10)), o 52 (.call (.t 50) [(.t 51)])])
    (.cond (.t 52) (.seq (.reg [o 8 (.mov (.c (.bool true)))])
      .ret) .skip))
    (.dreg [(o 53 (.load false 1 (.t 5)), []), (o 54 (.mov (.t 9)), []), (o 55 (.load false 1 (.t 1)), [0]), (o 56 (.load false 1 (.t 1)), [0, 2]), (o 57 (.len .sl (.t 56)), [0, 2]), (o 58 (.bin .sub (.t 57) (ci 1)), []), (o 59 (.slsl 1 (.t 55) none (some (.t 58)) none), []), (o 60 (.iaddrs 1 (.t 53) (.t 54)), []), (u (.store 1 (.t 60) (.c (.bool false))), [2, 3, 4]), (u (.store 1 (.t 1) (.t 59)), [])]))))))))))
  (.reg [o 61 (.bin .add (.t 19) (ci 1)), o 19 (.mov (.t 61))]))))
def pf_linear_search_2 : PF := ⟨62, [.t 8],
  (.seq (.reg [o 7 (.box (.t 0)), o 8 (.mov (.c (.bool false)))])
  (.seq (.seq (.reg [o 12 (.load false 1 (.t 1)), o 13 (.len .sl (.t 12)), o 14 (.load false 1 (.t 2)), o 15 (.len .sl (.t 14)), o 16 (.eq .int (.t 13) (.t 15))])
  (.cond (.t 16) (.seq (.reg [o 8 (.mov (.c (.bool true)))])
    .ret) .skip))
  (.seq (.seq (.reg [o 17 (.load false 1 (.t 2)), o 18 (.len .sl (.t 17)), o 19 (.mov (ci 0))])
  (.block 0 (.loop l1_linear_search_2)))
  (.seq (.reg [o 8 (.mov (.c (.bool false)))])
  .ret))))⟩

def pf_linear_after : PF := ⟨57, [.cell 4 true 952, .t 5],
  (.seq (.reg [o 2 (.box (.t 0)), o 3 (.box (.t 1)), o 4 (.alloc z952_2fb3 none), o 5 (.mov (.c (.bool false)))])
  (.seq (.reg [o 10 (.load true 952 (.t 2)), o 11 (.faddr 0 (.t 3)), o 12 (.load false 1 (.t 11)), o 13 (.faddr 1 (.t 3)), o 14 (.load true 6 (.t 13)), o 15 (.call (cf fn_model_State_Needs) [(.t 10), (.t 12), (.t 14)]), o 6 (.mov (.t 15))])
  (.seq (.seq (.reg [o 16 (.faddr 9 (.t 3)), o 17 (.faddr 0 (.t 16)), o 18 (.load false 1 (.t 17)), o 19 (.eq .int (.t 18) (ci 6)), o 20 (.mov (.t 19)), gt 20 (some 21) (.mov (.t 6)), gt 20 (some 22) (.bin .gtr (.t 21) (ci 0)), o 23 (.pick (.t 20) (.t 22) (.c (.bool false)))])
  (.cond (.t 23) (.seq (.reg [o 24 (.load true 952 (.t 2)), u (.store 952 (.t 4) (.t 24)), o 5 (.mov (.c (.bool true)))])
    .ret) .skip))
  (.seq (.reg [o 26 (.load true 952 (.t 2)), o 27 (.faddr 0 (.t 3)), o 28 (.load false 1 (.t 27)), o 29 (.faddr 1 (.t 3)), o 30 (.load true 6 (.t 29)), o 31 (.faddr 7 (.t 3)), o 32 (.load true 2 (.t 31)), o 33 (.call (cf fn_model_State_Do) [(.t 26), (.t 28), (.t 30), (.t 32)]), o 25 (.mov (.t 33)), o 34 (.ext (.t 25) 0), o 35 (.ext (.t 25) 1), o 36 (.ext (.t 25) 2), o 7 (.alloc z952_2fb3 none), o 8 (.alloc [(.int .i64 0), (.int .u64 0), (.int .u32 0)] none), u (.store 952 (.t 7) (.t 34)), u (.store 3 (.t 8) (.t 35)), o 9 (.mov (.t 36))])
  (.seq (.seq (.reg [o 37 (.faddr 1 (.t 3)), o 38 (.faddr 0 (.t 37)), o 39 (.load false 1 (.t 38)), o 40 (.eq .int (.t 39) (.c (.int .u8 3)))])
  (.cond (.t 40) (.reg [o 41 (.faddr 9 (.t 3)), o 42 (.faddr 1 (.t 41)), o 43 (.load false 1 (.t 42)), o 44 (.faddr 1 (.t 8)), u (.store 1 (.t 44) (.t 43))]) .skip))
  (.seq (.dreg [(o 45 (.load true 952 (.t 7)), []), (o 46 (.mov (.t 6)), []), (o 47 (.faddr 7 (.t 3)), []), (o 48 (.faddr 1 (.t 47)), []), (o 49 (.load false 1 (.t 48)), [0]), (o 50 (.eq .int (.t 46) (.t 49)), []), (o 51 (.mov (.t 50)), []), (gt 51 (some 52) (.load true 3 (.t 8)), [0]), (gt 51 (some 53) (.faddr 9 (.t 3)), []), (gt 51 (some 54) (.load true 3 (.t 53)), [0, 7]), (gt 51 (some 55) (.eq (.agg [.int, .int, .int]) (.t 52) (.t 54)), []), (o 56 (.pick (.t 51) (.t 55) (.c (.bool false))), []), (u (.store 952 (.t 4) (.t 45)), [7, 9]), (o 5 (.mov (.t 56)), [])])
  .ret))))))⟩

def pf_model_Begin : PF := ⟨7, [.cell 0 true 952],
  (.seq (.reg [o 0 (.alloc z952_2fb3 none)])
  (.seq (.reg [o 1 (.alloc z952_2fb3 none)])
  (.seq (.reg [o 2 (.faddr 936 (.t 1)), o 3 (.iaddra 8 1 (.t 2) (ci 0)), u (.store 1 (.t 3) (.c (.bool true))), o 4 (.faddr 944 (.t 1)), o 5 (.iaddra 8 1 (.t 4) (ci 0)), u (.store 1 (.t 5) (.c (.bool true)))])
  (.seq (.reg [o 6 (.load true 952 (.t 1)), u (.store 952 (.t 0) (.t 6))])
  .ret))))⟩

def pf_model_State_Needs : PF := ⟨26, [.t 6],
  (.seq (.reg [o 3 (.box (.t 0)), o 5 (.box (.t 2)), o 6 (.mov (ci 0))])
  (.seq (.reg [o 8 (.load true 952 (.t 3)), o 9 (.mov (.t 1)), o 10 (.load true 6 (.t 5)), o 11 (.build z964_ded6 [(0, 952, (.t 8)), (952, 1, (.t 9)), (953, 6, (.t 10)), (962, 1, (.c (.bool true)))]), o 12 (.box (.t 11)), o 7 (.mov (.t 12))])
  (.seq (.seq (.reg [o 13 (.faddr 0 (.t 5)), o 14 (.load false 1 (.t 13)), o 15 (.ne .int (.t 14) (.c (.int .u8 2))), o 16 (.mov (.t 15)), gf 16 (some 17) (.mov (.t 7)), gf 16 (some 18) (.call (cf fn_Pmodel_caller_calls) [(.t 17)]), gf 16 (some 19) (.fld false 1 0 (.t 18)), gf 16 (some 20) (.ne .int (.t 19) (ci 0)), o 21 (.pick (.t 16) (.c (.bool true)) (.t 20))])
  (.cond (.t 21) (.seq (.reg [o 6 (.mov (ci 0))])
    .ret) .skip))
  (.seq (.reg [o 22 (.mov (.t 7)), o 23 (.nilck (.t 22)), o 24 (.faddr 961 (.t 23)), o 25 (.load false 1 (.t 24)), o 6 (.mov (.t 25))])
  .ret))))⟩

def pf_model_State_Do : PF := ⟨35, [.cell 8 true 952, .cell 9 true 3, .t 10],
  (.seq (.reg [o 4 (.box (.t 0)), o 6 (.box (.t 2)), o 7 (.box (.t 3)), o 8 (.alloc z952_2fb3 none), o 9 (.alloc [(.int .i64 0), (.int .u64 0), (.int .u32 0)] none), o 10 (.mov (.c .nils))])
  (.seq (.reg [o 13 (.load true 952 (.t 4)), o 14 (.mov (.t 1)), o 15 (.load true 6 (.t 6)), o 16 (.load true 2 (.t 7)), o 17 (.build z964_ded6 [(0, 952, (.t 13)), (952, 1, (.t 14)), (953, 6, (.t 15)), (959, 2, (.t 16))]), o 18 (.box (.t 17)), o 11 (.mov (.t 18))])
  (.seq (.reg [o 19 (.mov (.t 11)), o 20 (.call (cf fn_Pmodel_caller_calls) [(.t 19)]), o 12 (.alloc [(.int .i64 0), (.int .u64 0), (.int .u32 0)] none), u (.store 3 (.t 12) (.t 20))])
  (.seq (.seq (.reg [o 21 (.faddr 0 (.t 12)), o 22 (.load false 1 (.t 21)), o 23 (.ne .int (.t 22) (ci 0))])
  (.cond (.t 23) (.seq (.dreg [(o 24 (.load true 952 (.t 4)), []), (o 25 (.load true 3 (.t 12)), [0]), (u (.store 952 (.t 8) (.t 24)), [1]), (u (.store 3 (.t 9) (.t 25)), []), (o 10 (.mov (.c .nils)), [])])
    .ret) .skip))
  (.seq (.dreg [(o 26 (.mov (.t 11)), []), (o 27 (.nilck (.t 26)), []), (o 28 (.faddr 0 (.t 27)), []), (o 29 (.load true 952 (.t 28)), []), (o 30 (.load true 3 (.t 12)), [3]), (o 31 (.mov (.t 11)), []), (o 32 (.nilck (.t 31)), []), (o 33 (.faddr 963 (.t 32)), []), (o 34 (.load false 1 (.t 33)), [3, 4]), (u (.store 952 (.t 8) (.t 29)), [4, 8]), (u (.store 3 (.t 9) (.t 30)), [8]), (o 10 (.mov (.t 34)), [])])
  .ret)))))⟩

def pd_Pmodel_caller_calls : PDef := ⟨47, [.cell 2 true 3],
  (.later (.reg [o 2 (.alloc [(.int .i64 0), (.int .u64 0), (.int .u32 0)] none)])
  (.here [o 5 (.mkf (.func fn_Pmodel_caller_calls_1) [] [(.t 2)])] (.t 5) []
  (.seq (.dreg [(o 6 (.mov (.t 0)), []), (o 7 (.nilck (.t 6)), []), (o 8 (.faddr 952 (.t 7)), []), (o 9 (.load false 1 (.t 8)), []), (o 10 (.bin .geq (.t 9) (ci 0)), []), (o 11 (.mov (.t 10)), []), (gt 11 (some 12) (.mov (.t 0)), []), (gt 11 (some 13) (.nilck (.t 12)), []), (gt 11 (some 14) (.faddr 952 (.t 13)), []), (gt 11 (some 15) (.load false 1 (.t 14)), []), (gt 11 (some 16) (.bin .lss (.t 15) (ci 8)), []), (o 17 (.pick (.t 11) (.t 16) (.c (.bool false))), []), (o 18 (.mov (.t 17)), []), (gt 18 (some 19) (.mov (.t 0)), []), (gt 18 (some 20) (.mov (.t 0)), []), (gt 18 (some 21) (.nilck (.t 20)), []), (gt 18 (some 22) (.faddr 952 (.t 21)), []), (gt 18 (some 23) (.load false 1 (.t 22)), []), (gt 18 (some 24) (.bin .and (.t 23) (ci 7)), []), (gt 18 (some 25) (.nilck (.t 19)), []), (gt 18 (some 26) (.faddr 0 (.t 25)), []), (gt 18 (some 27) (.faddr 936 (.t 26)), []), (gt 18 (some 28) (.iaddra 8 1 (.t 27) (.t 24)), []), (gt 18 (some 29) (.load false 1 (.t 28)), []), (o 30 (.pick (.t 18) (.t 29) (.c (.bool false))), []), (o 31 (.call (cf fn_model_ask) [(.t 30), (ci 12)]), [])])
  (.seq (.dreg [(o 33 (.load false 1 (.c (.glob g_model_does))), []), (o 34 (.mov (.t 0)), []), (o 35 (.nilck (.t 34)), []), (o 36 (.faddr 953 (.t 35)), []), (o 37 (.faddr 0 (.t 36)), []), (o 38 (.load false 1 (.t 37)), [0]), (o 39 (.lookup .int .nilf (.t 33) (.t 38) true), []), (o 32 (.mov (.t 39)), []), (o 40 (.ext (.t 32) 0), []), (o 41 (.ext (.t 32) 1), []), (o 3 (.mov (.t 40)), []), (o 4 (.mov (.t 41)), [])])
  (.seq (.reg [o 42 (.mov (.t 4)), o 43 (.call (cf fn_model_ask) [(.t 42), (ci 2)])])
  (.seq (.reg [o 44 (.mov (.t 3)), o 45 (.mov (.t 0)), o 46 (.call (.t 44) [(.t 45)]), u (.store 3 (.t 2) (.t 46))])
  .ret))))))⟩

def pr_Pmodel_caller_calls_1 : PRec := ⟨4, ⟨17, [],
  (.seq (.reg [o 1 (.mov (.t 4))])
  (.seq (.reg [o 5 (.mov (.t 1)), o 6 (.ne .ifc (.t 5) (.c .nili))])
  (.cond (.t 6) (.seq (.reg [o 8 (.mov (.t 1)), o 9 (.ta (.int .i64 0) (.t 8) ty_api_Errno true), o 7 (.mov (.t 9)), o 10 (.ext (.t 7) 0), o 11 (.ext (.t 7) 1), o 2 (.mov (.t 10)), o 3 (.mov (.t 11))])
    (.seq (.seq (.reg [o 12 (.mov (.t 3)), o 13 (.un .not (.t 12))])
    (.cond (.t 13) (.reg [o 14 (.mov (.t 1)), u (.panic (.t 14))]) .skip))
    (.reg [o 15 (.mov (.t 2)), o 16 (.build [(.int .i64 0), (.int .u64 0), (.int .u32 0)] [(0, 1, (.t 15))]), u (.store 3 (.t 0) (.t 16))]))) .skip)))⟩⟩

def pf_model_ask : PF := ⟨8, [],
  (.seq (.reg [o 4 (.mov (.t 0)), o 5 (.un .not (.t 4))])
  (.cond (.t 5) (.reg [o 6 (.mov (.t 1)), o 7 (.mki ty_api_Errno (.t 6)), u (.panic (.t 7))]) .skip))⟩

def pf_handle_Handle_Slot : PF := ⟨21, [.t 2, .t 3],
  (.seq (.reg [o 2 (.mov (ci 0)), o 3 (.mov (.c (.bool false)))])
  (.seq (.reg [o 5 (.mov (.t 0)), o 6 (.bin .and (.t 5) (.c (.int .u32 255))), o 7 (.conv .i64 (.t 6)), o 8 (.bin .sub (.t 7) (ci 1)), o 4 (.mov (.t 8))])
  (.seq (.seq (.reg [o 9 (.mov (.t 4)), o 10 (.bin .lss (.t 9) (ci 0)), o 11 (.mov (.t 10)), gf 11 (some 12) (.mov (.t 4)), gf 11 (some 13) (.bin .geq (.t 12) (ci 32)), o 14 (.pick (.t 11) (.c (.bool true)) (.t 13)), o 15 (.mov (.t 14)), gf 15 (some 16) (.mov (.t 0)), gf 15 (some 17) (.shf .shr (.t 16) (.c (.int .u64 8))), gf 15 (some 18) (.bin .gtr (.t 17) (.c (.int .u32 8388607))), o 19 (.pick (.t 15) (.c (.bool true)) (.t 18))])
  (.cond (.t 19) (.seq (.reg [o 2 (.mov (ci 0)), o 3 (.mov (.c (.bool false)))])
    .ret) .skip))
  (.seq (.reg [o 20 (.mov (.t 4)), o 2 (.mov (.t 20)), o 3 (.mov (.c (.bool true)))])
  .ret))))⟩

def l1_handle_Book_Issued : PC :=
  (.seq (.reg [o 8 (.bin .lss (.t 7) (ci 32))])
  (.seq (.cond (.t 8) .skip (.exit 0))
  (.seq (.block 1 (.seq (.reg [o 9 (.mov (.t 7)), o 4 (.mov (.t 9))])
    (.seq (.reg [o 11 (.load true 96 (.t 1)), o 12 (.mov (.t 4)), o 13 (.call (cf fn_handle_Book_At) [(.t 11), (.t 12)]), o 10 (.mov (.t 13)), o 14 (.ext (.t 10) 0), o 15 (.ext (.t 10) 1), o 5 (.mov (.t 14)), o 6 (.mov (.t 15))])
    (.seq (.reg [o 16 (.mov (.t 6))])
    (.cond (.t 16) (.reg [o 17 (.mov (.t 3)), o 18 (.mov (.t 5)), o 19 (.bslice [(.int .u32 0)] 1 [(0, 1, (.t 18))]), o 20 (.append ty_handle_Handle 1 4 (.t 17) (.t 19)), o 3 (.mov (.t 20))]) .skip)))))
  (.reg [o 21 (.bin .add (.t 7) (ci 1)), o 7 (.mov (.t 21))]))))
def pf_handle_Book_Issued : PF := ⟨23, [.t 2],
  (.seq (.reg [o 1 (.box (.t 0)), o 2 (.mov (.c .nils))])
  (.seq (.reg [o 3 (.mov (.c .nils))])
  (.seq (.seq (.reg [o 7 (.mov (ci 0))])
  (.block 0 (.loop l1_handle_Book_Issued)))
  (.seq (.reg [o 22 (.mov (.t 3)), o 2 (.mov (.t 22))])
  .ret))))⟩

def pf_table_book_All : PF := ⟨6, [.t 2],
  (.seq (.reg [o 1 (.box (.t 0)), o 2 (.mov (.c .nils))])
  (.seq (.reg [o 3 (.faddr 0 (.t 1)), o 4 (.load true 96 (.t 3)), o 5 (.call (cf fn_handle_Book_Issued) [(.t 4)]), o 2 (.mov (.t 5))])
  .ret))⟩

def pf_access_Who_owner : PF := ⟨26, [.t 6],
  (.seq (.reg [o 3 (.box (.t 0)), o 4 (.box (.t 1)), o 6 (.mov (.c (.bool false)))])
  (.seq (.reg [o 10 .mkmap, o 11 (.mkf (.func fn_access_Who_owner_1) [] [(.t 3), (.t 4)]), u (.mput .int (.t 10) (.c (.int .u8 0)) (.t 11)), o 12 (.mkf (.func fn_access_Who_owner_2) [] [(.t 3), (.t 4)]), u (.mput .int (.t 10) (.c (.int .u8 1)) (.t 12)), o 13 (.mkf (.func fn_access_Who_owner_3) [] [(.t 3), (.t 4)]), u (.mput .int (.t 10) (.c (.int .u8 2)) (.t 13)), o 14 (.mov (.t 10)), o 7 (.mov (.t 14))])
  (.seq (.reg [o 16 (.mov (.t 7)), o 17 (.mov (.t 2)), o 18 (.lookup .int .nilf (.t 16) (.t 17) true), o 15 (.mov (.t 18)), o 19 (.ext (.t 15) 0), o 20 (.ext (.t 15) 1), o 8 (.mov (.t 19)), o 9 (.mov (.t 20))])
  (.seq (.reg [o 21 (.mov (.t 9)), o 22 (.mov (.t 21)), gt 22 (some 23) (.mov (.t 8)), gt 22 (some 24) (.call (.t 23) []), o 25 (.pick (.t 22) (.t 24) (.c (.bool false))), o 6 (.mov (.t 25))])
  .ret))))⟩

def pf_Pmodel_caller_new : PF := ⟨65, [.cell 2 true 3],
  (.seq (.reg [o 2 (.alloc [(.int .i64 0), (.int .u64 0), (.int .u32 0)] none)])
  (.seq (.seq (.reg [o 6 (.mov (.t 0)), o 7 (.nilck (.t 6)), o 8 (.faddr 953 (.t 7)), o 9 (.faddr 1 (.t 8)), o 10 (.load false 1 (.t 9)), o 11 (.ne .int (.t 10) (.c (.int .u32 0)))])
  (.cond (.t 11) (.reg [o 12 (.mov (.t 0)), o 13 (.mov (.t 0)), o 14 (.nilck (.t 13)), o 15 (.faddr 953 (.t 14)), o 16 (.faddr 1 (.t 15)), o 17 (.load false 1 (.t 16)), o 18 (.call (cf fn_Pmodel_caller_may) [(.t 12), (.t 17), (.c (.int .u8 1))])]) .skip))
  (.seq (.dreg [(o 20 (.mov (.t 0)), []), (o 21 (.nilck (.t 20)), []), (o 22 (.faddr 0 (.t 21)), []), (o 23 (.faddr 0 (.t 22)), []), (o 24 (.faddr 0 (.t 23)), []), (o 25 (.load true 480 (.t 24)), []), (o 26 (.mov (.t 0)), []), (o 27 (.nilck (.t 26)), []), (o 28 (.faddr 953 (.t 27)), []), (o 29 (.faddr 1 (.t 28)), []), (o 30 (.load false 1 (.t 29)), [5]), (o 31 (.mov (.t 0)), []), (o 32 (.nilck (.t 31)), []), (o 33 (.faddr 953 (.t 32)), []), (o 34 (.faddr 3 (.t 33)), []), (o 35 (.load false 1 (.t 34)), [5, 10]), (o 36 (.min [(.t 35), (.c (.int .u32 65))]), []), (o 37 (.conv .i64 (.t 36)), []), (o 38 (.call (cf fn_forest_New) [(.t 25), (.t 30), (.t 37)]), []), (o 19 (.mov (.t 38)), []), (o 39 (.ext (.t 19) 0), []), (o 40 (.ext (.t 19) 1), []), (o 41 (.ext (.t 19) 2), []), (o 3 (.alloc z480_3a0d none), [5, 10, 15, 18]), (u (.store 480 (.t 3) (.t 39)), []), (o 4 (.mov (.t 40)), []), (o 5 (.mov (.t 41)), [])])
  (.seq (.reg [o 42 (.mov (.t 5)), o 43 (.call (cf fn_model_fine) [(.t 42)])])
  (.seq (.reg [o 44 (.mov (.t 0)), o 45 (.load true 480 (.t 3)), o 46 (.nilck (.t 44)), o 47 (.faddr 0 (.t 46)), o 48 (.faddr 0 (.t 47)), o 49 (.faddr 0 (.t 48)), u (.store 480 (.t 49) (.t 45))])
  (.seq (.seq (.reg [o 50 (.mov (.t 0)), o 51 (.nilck (.t 50)), o 52 (.faddr 953 (.t 51)), o 53 (.faddr 1 (.t 52)), o 54 (.load false 1 (.t 53)), o 55 (.eq .int (.t 54) (.c (.int .u32 0)))])
  (.cond (.t 55) (.reg [o 56 (.mov (.t 0)), o 57 (.mov (.t 4)), o 58 (.mov (.t 0)), o 59 (.nilck (.t 58)), o 60 (.faddr 952 (.t 59)), o 61 (.load false 1 (.t 60)), o 62 (.call (cf fn_Pmodel_caller_owns) [(.t 56), (.t 57), (.t 61)])]) .skip))
  (.seq (.reg [o 63 (.mov (.t 4)), o 64 (.build [(.int .i64 0), (.int .u64 0), (.int .u32 0)] [(2, 1, (.t 63))]), u (.store 3 (.t 2) (.t 64))])
  .ret)))))))⟩

def pf_Pmodel_caller_spawn : PF := ⟨46, [.cell 2 true 3],
  (.seq (.reg [o 2 (.alloc [(.int .i64 0), (.int .u64 0), (.int .u32 0)] none)])
  (.seq (.dreg [(o 3 (.mov (.t 0)), []), (o 4 (.nilck (.t 3)), []), (o 5 (.faddr 953 (.t 4)), []), (o 6 (.faddr 3 (.t 5)), []), (o 7 (.load false 1 (.t 6)), []), (o 8 (.bin .lss (.t 7) (.c (.int .u32 8))), []), (o 9 (.mov (.t 8)), []), (gt 9 (some 10) (.mov (.t 0)), []), (gt 9 (some 11) (.mov (.t 0)), []), (gt 9 (some 12) (.nilck (.t 11)), []), (gt 9 (some 13) (.faddr 953 (.t 12)), []), (gt 9 (some 14) (.faddr 3 (.t 13)), []), (gt 9 (some 15) (.load false 1 (.t 14)), []), (gt 9 (some 16) (.bin .rem (.t 15) (.c (.int .u32 8))), []), (gt 9 (some 17) (.nilck (.t 10)), []), (gt 9 (some 18) (.faddr 0 (.t 17)), []), (gt 9 (some 19) (.faddr 944 (.t 18)), []), (gt 9 (some 20) (.iaddra 8 1 (.t 19) (.t 16)), []), (gt 9 (some 21) (.load false 1 (.t 20)), []), (gt 9 (some 22) (.un .not (.t 21)), []), (o 23 (.pick (.t 9) (.t 22) (.c (.bool false))), []), (o 24 (.call (cf fn_model_ask) [(.t 23), (ci 2)]), [])])
  (.seq (.dreg [(o 25 (.mov (.t 0)), []), (o 26 (.mov (.t 0)), []), (o 27 (.nilck (.t 26)), []), (o 28 (.faddr 953 (.t 27)), []), (o 29 (.faddr 3 (.t 28)), []), (o 30 (.load false 1 (.t 29)), []), (o 31 (.mov (.t 0)), []), (o 32 (.mov (.t 0)), []), (o 33 (.nilck (.t 32)), []), (o 34 (.faddr 953 (.t 33)), []), (o 35 (.faddr 3 (.t 34)), []), (o 36 (.load false 1 (.t 35)), [5]), (o 37 (.nilck (.t 25)), []), (o 38 (.faddr 0 (.t 37)), []), (o 39 (.faddr 936 (.t 38)), []), (o 40 (.iaddra 8 1 (.t 39) (.t 30)), []), (u (.store 1 (.t 40) (.c (.bool true))), []), (o 41 (.nilck (.t 31)), []), (o 42 (.faddr 0 (.t 41)), []), (o 43 (.faddr 944 (.t 42)), []), (o 44 (.iaddra 8 1 (.t 43) (.t 36)), []), (u (.store 1 (.t 44) (.c (.bool true))), [])])
  (.seq (.reg [o 45 (.build [(.int .i64 0), (.int .u64 0), (.int .u32 0)] []), u (.store 3 (.t 2) (.t 45))])
  .ret))))⟩

def pf_Pmodel_caller_may : PF := ⟨19, [],
  (.dreg [(o 6 (.mov (.t 0)), []), (o 7 (.nilck (.t 6)), []), (o 8 (.faddr 0 (.t 7)), []), (o 9 (.faddr 0 (.t 8)), []), (o 10 (.load true 784 (.t 9)), []), (o 11 (.mov (.t 0)), []), (o 12 (.nilck (.t 11)), []), (o 13 (.faddr 952 (.t 12)), []), (o 14 (.load false 1 (.t 13)), [4]), (o 15 (.mov (.t 1)), []), (o 16 (.mov (.t 2)), []), (o 17 (.call (cf fn_access_Who_May) [(.t 10), (.t 14), (.t 15), (.t 16)]), []), (o 18 (.call (cf fn_model_fine) [(.t 17)]), [])])⟩

def pf_forest_New : PF := ⟨36, [.cell 6 true 480, .t 7, .t 8],
  (.seq (.reg [o 3 (.box (.t 0)), o 6 (.alloc z480_3a0d none), o 7 (.mov (.c (.int .u32 0))), o 8 (.mov (ci 0))])
  (.seq (.reg [o 13 (.load true 480 (.t 3)), o 14 (.mov (.t 1)), o 15 (.mov (.t 2)), o 16 (.call (cf fn_table_Table_New) [(.t 13), (.t 14), (.t 15)]), o 12 (.mov (.t 16)), o 17 (.ext (.t 12) 0), o 18 (.ext (.t 12) 1), o 19 (.ext (.t 12) 2), o 9 (.alloc z480_3a0d none), u (.store 480 (.t 9) (.t 17)), o 10 (.mov (.t 18)), o 11 (.mov (.t 19))])
  (.seq (.seq (.reg [o 20 (.mov (.t 11)), o 21 (.eq .int (.t 20) (ci 0)), o 22 (.mov (.t 21)), gf 22 (some 23) (.mov (.t 11)), gf 22 (some 24) (.eq .int (.t 23) (ci 7)), o 25 (.pick (.t 22) (.c (.bool true)) (.t 24)), o 26 (.mov (.t 25)), gt 26 (some 27) (.load true 480 (.t 3)), gt 26 (some 28) (.mov (.t 1)), gt 26 (some 29) (.call (cf fn_forest_Depth) [(.t 27), (.t 28)]), gt 26 (some 30) (.bin .geq (.t 29) (ci 6)), o 31 (.pick (.t 26) (.t 30) (.c (.bool false)))])
  (.cond (.t 31) (.seq (.reg [o 32 (.load true 480 (.t 3)), u (.store 480 (.t 6) (.t 32)), o 7 (.mov (.c (.int .u32 0))), o 8 (.mov (ci 8))])
    .ret) .skip))
  (.seq (.reg [o 33 (.load true 480 (.t 9)), o 34 (.mov (.t 10)), o 35 (.mov (.t 11)), u (.store 480 (.t 6) (.t 33)), o 7 (.mov (.t 34)), o 8 (.mov (.t 35))])
  .ret))))⟩

def pf_model_fine : PF := ⟨6, [],
  (.reg [o 2 (.mov (.t 0)), o 3 (.eq .int (.t 2) (ci 0)), o 4 (.mov (.t 0)), o 5 (.call (cf fn_model_ask) [(.t 3), (.t 4)])])⟩

def pf_Pmodel_caller_owns : PF := ⟨34, [],
  (.seq (.dreg [(o 9 (.mov (.t 0)), []), (o 10 (.nilck (.t 9)), []), (o 11 (.faddr 0 (.t 10)), []), (o 12 (.faddr 0 (.t 11)), []), (o 13 (.faddr 480 (.t 12)), []), (o 14 (.load true 128 (.t 13)), []), (o 15 (.mov (.t 0)), []), (o 16 (.nilck (.t 15)), []), (o 17 (.faddr 0 (.t 16)), []), (o 18 (.faddr 0 (.t 17)), []), (o 19 (.faddr 0 (.t 18)), []), (o 20 (.load true 480 (.t 19)), [5]), (o 21 (.mov (.t 1)), []), (o 22 (.mov (.t 2)), []), (o 23 (.call (cf fn_own_Owns_Give) [(.t 14), (.t 20), (.t 21), (.t 22)]), []), (o 8 (.mov (.t 23)), []), (o 24 (.ext (.t 8) 0), []), (o 25 (.ext (.t 8) 1), []), (o 6 (.alloc z128_8087 none), [5, 11, 14]), (u (.store 128 (.t 6) (.t 24)), []), (o 7 (.mov (.t 25)), [])])
  (.seq (.reg [o 26 (.mov (.t 7)), o 27 (.call (cf fn_model_fine) [(.t 26)])])
  (.reg [o 28 (.mov (.t 0)), o 29 (.load true 128 (.t 6)), o 30 (.nilck (.t 28)), o 31 (.faddr 0 (.t 30)), o 32 (.faddr 0 (.t 31)), o 33 (.faddr 480 (.t 32)), u (.store 128 (.t 33) (.t 29))])))⟩

def l1_forest_Root : PC :=
  (.block 1 (.reg [o 16 (.mov (.t 5)), u (.store 1 (.t 3) (.t 16))]))
def pf_forest_Root : PF := ⟨18, [.t 4],
  (.seq (.reg [o 2 (.box (.t 0)), o 3 (.box (.t 1)), o 4 (.mov (.c (.int .u32 0)))])
  (.seq (.seq (.reg [o 6 (.faddr 0 (.t 2)), o 7 (.faddr 0 (.t 6)), o 8 (.load true 96 (.t 7)), o 9 (.load false 1 (.t 3)), o 10 (.call (cf fn_handle_Book_Good) [(.t 8), (.t 9)]), o 11 (.un .not (.t 10))])
  (.cond (.t 11) (.seq (.reg [o 4 (.mov (.c (.int .u32 0)))])
    .ret) .skip))
  (.seq (.seq (.reg [o 12 (.load true 480 (.t 2)), o 13 (.load false 1 (.t 3)), o 14 (.call (cf fn_forest_above) [(.t 12), (.t 13)])])
  (.block 0 (.rfun (.t 14) [15] (.reg [o 5 (.mov (.t 15))]) l1_forest_Root)))
  (.seq (.reg [o 17 (.load false 1 (.t 3)), o 4 (.mov (.t 17))])
  .ret))))⟩

def pf_handle_Book_Good : PF := ⟨23, [.t 4],
  (.seq (.reg [o 2 (.box (.t 0)), o 4 (.mov (.c (.bool false)))])
  (.seq (.reg [o 8 (.mov (.t 1)), o 9 (.call (cf fn_handle_Handle_Slot) [(.t 8)]), o 7 (.mov (.t 9)), o 10 (.ext (.t 7) 0), o 11 (.ext (.t 7) 1), o 5 (.mov (.t 10)), o 6 (.mov (.t 11))])
  (.seq (.reg [o 12 (.mov (.t 6)), o 13 (.mov (.t 12)), gt 13 (some 14) (.mov (.t 5)), gt 13 (some 15) (.faddr 0 (.t 2)), gt 13 (some 16) (.iaddra 32 3 (.t 15) (.t 14)), gt 13 (some 17) (.load true 3 (.t 16)), gt 13 (some 18) (.mov (.t 1)), gt 13 (some 19) (.shf .shr (.t 18) (.c (.int .u64 8))), gt 13 (some 20) (.build [(.int .u32 0), (.bool false), (.bool false)] [(0, 1, (.t 19)), (1, 1, (.c (.bool true)))]), gt 13 (some 21) (.eq (.agg [.int, .bool, .bool]) (.t 17) (.t 20)), o 22 (.pick (.t 13) (.t 21) (.c (.bool false))), o 4 (.mov (.t 22))])
  .ret)))⟩

def pf_own_Owns_Of : PF := ⟨35, [.cell 6 true 3],
  (.seq (.reg [o 3 (.box (.t 0)), o 4 (.box (.t 1)), o 6 (.alloc [(.int .u8 0), (.int .u8 0), (.int .u8 0)] none)])
  (.seq (.reg [o 10 (.load true 480 (.t 4)), o 11 (.mov (.t 2)), o 12 (.call (cf fn_forest_Root) [(.t 10), (.t 11)]), o 7 (.mov (.t 12))])
  (.seq (.reg [o 14 (.mov (.t 7)), o 15 (.call (cf fn_handle_Handle_Slot) [(.t 14)]), o 13 (.mov (.t 15)), o 16 (.ext (.t 13) 0), o 17 (.ext (.t 13) 1), o 8 (.mov (.t 16)), o 9 (.mov (.t 17))])
  (.seq (.seq (.reg [o 18 (.mov (.t 9)), o 19 (.un .not (.t 18)), o 20 (.mov (.t 19)), gf 20 (some 21) (.mov (.t 8)), gf 20 (some 22) (.faddr 0 (.t 3)), gf 20 (some 23) (.iaddra 32 4 (.t 22) (.t 21)), gf 20 (some 24) (.faddr 0 (.t 23)), gf 20 (some 25) (.load false 1 (.t 24)), gf 20 (some 26) (.mov (.t 7)), gf 20 (some 27) (.ne .int (.t 25) (.t 26)), o 28 (.pick (.t 20) (.c (.bool true)) (.t 27))])
  (.cond (.t 28) (.seq (.reg [o 29 (.build [(.int .u8 0), (.int .u8 0), (.int .u8 0)] []), u (.store 3 (.t 6) (.t 29))])
    .ret) .skip))
  (.seq (.reg [o 30 (.mov (.t 8)), o 31 (.faddr 0 (.t 3)), o 32 (.iaddra 32 4 (.t 31) (.t 30)), o 33 (.faddr 1 (.t 32)), o 34 (.load true 3 (.t 33)), u (.store 3 (.t 6) (.t 34))])
  .ret)))))⟩

def pf_token_Tokens_Get : PF := ⟨23, [.cell 4 true 5, .t 5],
  (.seq (.reg [o 2 (.box (.t 0)), o 4 (.alloc [(.int .u32 0), (.int .u8 0), (.int .u8 0), (.bool false), (.int .u32 0)] none), o 5 (.mov (ci 0))])
  (.seq (.seq (.reg [o 8 (.faddr 0 (.t 2)), o 9 (.load true 96 (.t 8)), o 10 (.mov (.t 1)), o 11 (.call (cf fn_handle_Book_Good) [(.t 9), (.t 10)]), o 12 (.un .not (.t 11))])
  (.cond (.t 12) (.seq (.reg [o 13 (.build [(.int .u32 0), (.int .u8 0), (.int .u8 0), (.bool false), (.int .u32 0)] []), u (.store 5 (.t 4) (.t 13)), o 5 (.mov (ci 4))])
    .ret) .skip))
  (.seq (.reg [o 15 (.mov (.t 1)), o 16 (.call (cf fn_handle_Handle_Slot) [(.t 15)]), o 14 (.mov (.t 16)), o 17 (.ext (.t 14) 0), o 18 (.ext (.t 14) 1), o 6 (.mov (.t 17)), o 7 (.mov (.t 18))])
  (.seq (.reg [o 19 (.mov (.t 6)), o 20 (.faddr 96 (.t 2)), o 21 (.iaddra 16 5 (.t 20) (.t 19)), o 22 (.load true 5 (.t 21)), u (.store 5 (.t 4) (.t 22)), o 5 (.mov (ci 0))])
  .ret))))⟩

def l1_token_Tokens_those : PC :=
  (.seq (.reg [o 15 (.bin .lss (.t 14) (.t 13))])
  (.seq (.cond (.t 15) .skip (.exit 0))
  (.seq (.block 1 (.seq (.reg [o 16 (.iaddrs 1 (.t 12) (.t 14)), o 17 (.load false 1 (.t 16)), o 7 (.mov (.t 17))])
    (.seq (.reg [o 19 (.load true 176 (.t 2)), o 20 (.mov (.t 7)), o 21 (.call (cf fn_token_Tokens_Get) [(.t 19), (.t 20)]), o 18 (.mov (.t 21)), o 22 (.ext (.t 18) 0), o 23 (.ext (.t 18) 1), o 8 (.alloc [(.int .u32 0), (.int .u8 0), (.int .u8 0), (.bool false), (.int .u32 0)] none), u (.store 5 (.t 8) (.t 22)), o 9 (.mov (.t 23))])
    (.seq (.reg [o 24 (.mov (.t 1)), o 25 (.load true 5 (.t 8)), o 26 (.call (.t 24) [(.t 25)])])
    (.cond (.t 26) (.reg [o 27 (.mov (.t 5)), o 28 (.mov (.t 7)), o 29 (.bslice [(.int .u32 0)] 1 [(0, 1, (.t 28))]), o 30 (.append ty_handle_Handle 1 4 (.t 27) (.t 29)), o 5 (.mov (.t 30))]) .skip)))))
  (.reg [o 31 (.bin .add (.t 14) (ci 1)), o 14 (.mov (.t 31))]))))
def pf_token_Tokens_those : PF := ⟨33, [.t 4],
  (.seq (.reg [o 2 (.box (.t 0)), o 4 (.mov (.c .nils))])
  (.seq (.reg [o 5 (.mov (.c .nils))])
  (.seq (.seq (.reg [o 10 (.faddr 0 (.t 2)), o 11 (.load true 96 (.t 10)), o 12 (.call (cf fn_handle_Book_Issued) [(.t 11)]), o 13 (.len .sl (.t 12)), o 14 (.mov (ci 0))])
  (.block 0 (.loop l1_token_Tokens_those)))
  (.seq (.reg [o 32 (.mov (.t 5)), o 4 (.mov (.t 32))])
  .ret))))⟩

def pf_access_Who_May : PF := ⟨68, [.t 8],
  (.seq (.reg [o 4 (.box (.t 0)), o 8 (.mov (ci 0))])
  (.seq (.seq (.reg [o 11 (.faddr 0 (.t 4)), o 12 (.faddr 0 (.t 11)), o 13 (.faddr 0 (.t 12)), o 14 (.load true 96 (.t 13)), o 15 (.mov (.t 2)), o 16 (.call (cf fn_handle_Book_Good) [(.t 14), (.t 15)]), o 17 (.un .not (.t 16))])
  (.cond (.t 17) (.seq (.reg [o 8 (.mov (ci 4))])
    .ret) .skip))
  (.seq (.reg [o 18 (.faddr 480 (.t 4)), o 19 (.load true 128 (.t 18)), o 20 (.faddr 0 (.t 4)), o 21 (.load true 480 (.t 20)), o 22 (.mov (.t 2)), o 23 (.call (cf fn_own_Owns_Of) [(.t 19), (.t 21), (.t 22)]), o 9 (.alloc [(.int .u8 0), (.int .u8 0), (.int .u8 0)] none), u (.store 3 (.t 9) (.t 23))])
  (.seq (.reg [o 10 (.mov (.c (.bool false)))])
  (.seq (.seq (.reg [o 24 (.faddr 0 (.t 9)), o 25 (.load false 1 (.t 24))])
  (.block 0 (.seq (.reg [o 27 (.eq .int (.t 25) (.c (.int .u8 3))), o 26 (.mov (.t 27))])
    (.cond (.t 26) (.reg [o 28 (.mov (.t 3)), o 29 (.eq .int (.t 28) (.c (.int .u8 0))), o 30 (.mov (.t 29)), gt 30 (some 31) (.mov (.t 1)), gt 30 (some 32) (.bin .geq (.t 31) (ci 0)), o 33 (.pick (.t 30) (.t 32) (.c (.bool false))), o 34 (.mov (.t 33)), gt 34 (some 35) (.mov (.t 1)), gt 34 (some 36) (.bin .lss (.t 35) (ci 8)), o 37 (.pick (.t 34) (.t 36) (.c (.bool false))), o 38 (.mov (.t 37)), gt 38 (some 39) (.faddr 2 (.t 9)), gt 38 (some 40) (.load false 1 (.t 39)), gt 38 (some 41) (.mov (.t 1)), gt 38 (some 42) (.shf .shr (.t 40) (.t 41)), gt 38 (some 43) (.bin .and (.t 42) (.c (.int .u8 1))), gt 38 (some 44) (.eq .int (.t 43) (.c (.int .u8 1))), o 45 (.pick (.t 38) (.t 44) (.c (.bool false))), o 10 (.mov (.t 45))]) (.seq (.reg [o 47 (.eq .int (.t 25) (.c (.int .u8 1))), o 46 (.mov (.t 47))])
      (.cond (.t 46) (.reg [o 48 (.faddr 1 (.t 9)), o 49 (.load false 1 (.t 48)), o 50 (.conv .i64 (.t 49)), o 51 (.mov (.t 1)), o 52 (.eq .int (.t 50) (.t 51)), o 53 (.mov (.t 52)), gt 53 (some 54) (.load true 784 (.t 4)), gt 53 (some 55) (.mov (.t 2)), gt 53 (some 56) (.mov (.t 3)), gt 53 (some 57) (.call (cf fn_access_Who_owner) [(.t 54), (.t 55), (.t 56)]), o 58 (.pick (.t 53) (.t 57) (.c (.bool false))), o 59 (.mov (.t 58)), gf 59 (some 60) (.load true 784 (.t 4)), gf 59 (some 61) (.mov (.t 1)), gf 59 (some 62) (.mov (.t 2)), gf 59 (some 63) (.mov (.t 3)), gf 59 (some 64) (.call (cf fn_access_Who_lent) [(.t 60), (.t 61), (.t 62), (.t 63)]), o 65 (.pick (.t 59) (.c (.bool true)) (.t 64)), o 10 (.mov (.t 65))]) .skip))))))
  (.seq (.seq (.reg [o 66 (.mov (.t 10)), o 67 (.un .not (.t 66))])
  (.cond (.t 67) (.seq (.reg [o 8 (.mov (ci 5))])
    .ret) .skip))
  (.seq (.reg [o 8 (.mov (ci 0))])
  .ret)))))))⟩

def pf_table_Table_New : PF := ⟨58, [.cell 6 true 480, .t 7, .t 8],
  (.seq (.reg [o 3 (.box (.t 0)), o 6 (.alloc z480_3a0d none), o 7 (.mov (.c (.int .u32 0))), o 8 (.mov (ci 0))])
  (.seq (.block 0 (.seq (.reg [o 15 (.mov (.t 1)), o 16 (.ne .int (.t 15) (.c (.int .u32 0))), o 17 (.mov (.t 16)), gt 17 (some 18) (.faddr 0 (.t 3)), gt 17 (some 19) (.faddr 0 (.t 18)), gt 17 (some 20) (.load true 96 (.t 19)), gt 17 (some 21) (.mov (.t 1)), gt 17 (some 22) (.call (cf fn_handle_Book_Good) [(.t 20), (.t 21)]), gt 17 (some 23) (.un .not (.t 22)), o 24 (.pick (.t 17) (.t 23) (.c (.bool false))), o 14 (.mov (.t 24))])
    (.cond (.t 14) (.seq (.reg [o 25 (.load true 480 (.t 3)), u (.store 480 (.t 6) (.t 25)), o 7 (.mov (.c (.int .u32 0))), o 8 (.mov (ci 4))])
      .ret) (.seq (.reg [o 27 (.mov (.t 2)), o 28 (.call (cf fn_table_quota) [(.t 27)]), o 29 (.un .not (.t 28)), o 26 (.mov (.t 29))])
      (.cond (.t 26) (.seq (.reg [o 30 (.load true 480 (.t 3)), u (.store 480 (.t 6) (.t 30)), o 7 (.mov (.c (.int .u32 0))), o 8 (.mov (ci 2))])
        .ret) .skip)))))
  (.seq (.reg [o 32 (.faddr 0 (.t 3)), o 33 (.faddr 0 (.t 32)), o 34 (.load true 96 (.t 33)), o 35 (.call (cf fn_handle_Book_Issue) [(.t 34)]), o 31 (.mov (.t 35)), o 36 (.ext (.t 31) 0), o 37 (.ext (.t 31) 1), o 38 (.ext (.t 31) 2), o 9 (.alloc z96_9863 none), u (.store 96 (.t 9) (.t 36)), o 10 (.mov (.t 37)), o 11 (.mov (.t 38))])
  (.seq (.seq (.reg [o 39 (.mov (.t 11)), o 40 (.un .not (.t 39))])
  (.cond (.t 40) (.seq (.reg [o 41 (.load true 480 (.t 3)), u (.store 480 (.t 6) (.t 41)), o 7 (.mov (.c (.int .u32 0))), o 8 (.mov (ci 7))])
    .ret) .skip))
  (.seq (.reg [o 42 (.load true 96 (.t 9)), o 43 (.faddr 0 (.t 3)), o 44 (.faddr 0 (.t 43)), u (.store 96 (.t 44) (.t 42))])
  (.seq (.reg [o 46 (.mov (.t 10)), o 47 (.call (cf fn_handle_Handle_Slot) [(.t 46)]), o 45 (.mov (.t 47)), o 48 (.ext (.t 45) 0), o 49 (.ext (.t 45) 1), o 12 (.mov (.t 48)), o 13 (.mov (.t 49))])
  (.seq (.reg [o 50 (.mov (.t 12)), o 51 (.mov (.t 1)), o 52 (.mov (.t 2)), o 53 (.build [(.int .u32 0), (.int .i64 0), .nils, (.int .i64 0), (.int .u32 0), (.int .u32 0), (.int .u32 0), (.int .u32 0), (.int .u32 0), (.int .u32 0), (.int .u32 0), (.int .u32 0)] [(0, 1, (.t 51)), (1, 1, (.t 52))]), o 54 (.faddr 96 (.t 3)), o 55 (.iaddra 32 12 (.t 54) (.t 50)), u (.store 12 (.t 55) (.t 53))])
  (.seq (.reg [o 56 (.load true 480 (.t 3)), o 57 (.mov (.t 10)), u (.store 480 (.t 6) (.t 56)), o 7 (.mov (.t 57)), o 8 (.mov (ci 0))])
  .ret))))))))⟩

def l1_forest_Depth : PC :=
  (.block 1 (.reg [o 16 (.load false 1 (.t 5)), o 17 (.bin .add (.t 16) (ci 1)), u (.store 1 (.t 5) (.t 17))]))
def pf_forest_Depth : PF := ⟨19, [.t 4],
  (.seq (.reg [o 2 (.box (.t 0)), o 4 (.mov (ci 0))])
  (.seq (.seq (.reg [o 6 (.faddr 0 (.t 2)), o 7 (.faddr 0 (.t 6)), o 8 (.load true 96 (.t 7)), o 9 (.mov (.t 1)), o 10 (.call (cf fn_handle_Book_Good) [(.t 8), (.t 9)]), o 11 (.un .not (.t 10))])
  (.cond (.t 11) (.seq (.reg [o 4 (.mov (ci 0))])
    .ret) .skip))
  (.seq (.reg [o 5 (.alloc [(.int .i64 0)] none), u (.store 1 (.t 5) (ci 1))])
  (.seq (.seq (.reg [o 12 (.load true 480 (.t 2)), o 13 (.mov (.t 1)), o 14 (.call (cf fn_forest_above) [(.t 12), (.t 13)])])
  (.block 0 (.rfun (.t 14) [15] .skip l1_forest_Depth)))
  (.seq (.reg [o 18 (.load false 1 (.t 5)), o 4 (.mov (.t 18))])
  .ret)))))⟩

def pf_own_Owns_Give : PF := ⟨20, [.cell 8 true 128, .t 9],
  (.seq (.reg [o 4 (.box (.t 0)), o 5 (.box (.t 1)), o 8 (.alloc z128_8087 none), o 9 (.mov (ci 0))])
  (.seq (.reg [o 10 (.load true 128 (.t 4)), o 11 (.load true 480 (.t 5)), o 12 (.mov (.t 2)), o 13 (.mov (.t 3)), o 14 (.mov (.t 3)), o 15 (.conv .u8 (.t 14)), o 16 (.build [(.int .u8 0), (.int .u8 0), (.int .u8 0)] [(0, 1, (.c (.int .u8 1))), (1, 1, (.t 15))]), o 17 (.call (cf fn_own_Owns_say) [(.t 10), (.t 11), (.t 12), (.t 13), (.t 16)]), o 18 (.ext (.t 17) 0), o 19 (.ext (.t 17) 1), u (.store 128 (.t 8) (.t 18)), o 9 (.mov (.t 19))])
  .ret))⟩

def pf_table_Table_Get : PF := ⟨30, [.cell 4 true 12, .t 5],
  (.seq (.reg [o 2 (.box (.t 0)), o 4 (.alloc [(.int .u32 0), (.int .i64 0), .nils, (.int .i64 0), (.int .u32 0), (.int .u32 0), (.int .u32 0), (.int .u32 0), (.int .u32 0), (.int .u32 0), (.int .u32 0), (.int .u32 0)] none), o 5 (.mov (ci 0))])
  (.seq (.seq (.reg [o 9 (.faddr 0 (.t 2)), o 10 (.faddr 0 (.t 9)), o 11 (.load true 96 (.t 10)), o 12 (.mov (.t 1)), o 13 (.call (cf fn_handle_Book_Good) [(.t 11), (.t 12)]), o 14 (.un .not (.t 13))])
  (.cond (.t 14) (.seq (.reg [o 15 (.build [(.int .u32 0), (.int .i64 0), .nils, (.int .i64 0), (.int .u32 0), (.int .u32 0), (.int .u32 0), (.int .u32 0), (.int .u32 0), (.int .u32 0), (.int .u32 0), (.int .u32 0)] []), u (.store 12 (.t 4) (.t 15)), o 5 (.mov (ci 4))])
    .ret) .skip))
  (.seq (.reg [o 17 (.mov (.t 1)), o 18 (.call (cf fn_handle_Handle_Slot) [(.t 17)]), o 16 (.mov (.t 18)), o 19 (.ext (.t 16) 0), o 20 (.ext (.t 16) 1), o 6 (.mov (.t 19)), o 7 (.mov (.t 20))])
  (.seq (.reg [o 21 (.mov (.t 6)), o 22 (.faddr 96 (.t 2)), o 23 (.iaddra 32 12 (.t 22) (.t 21)), o 24 (.load true 12 (.t 23)), o 8 (.alloc [(.int .u32 0), (.int .i64 0), .nils, (.int .i64 0), (.int .u32 0), (.int .u32 0), (.int .u32 0), (.int .u32 0), (.int .u32 0), (.int .u32 0), (.int .u32 0), (.int .u32 0)] none), u (.store 12 (.t 8) (.t 24))])
  (.seq (.reg [o 25 (.load true 480 (.t 2)), o 26 (.mov (.t 1)), o 27 (.call (cf fn_table_Table_up) [(.t 25), (.t 26)]), o 28 (.faddr 0 (.t 8)), u (.store 1 (.t 28) (.t 27))])
  (.seq (.reg [o 29 (.load true 12 (.t 8)), u (.store 12 (.t 4) (.t 29)), o 5 (.mov (ci 0))])
  .ret))))))⟩

def pf_forest_Under : PF := ⟨15, [.t 4],
  (.seq (.reg [o 2 (.box (.t 0)), o 4 (.mov (.c .nils))])
  (.seq (.seq (.reg [o 5 (.faddr 0 (.t 2)), o 6 (.faddr 0 (.t 5)), o 7 (.load true 96 (.t 6)), o 8 (.mov (.t 1)), o 9 (.call (cf fn_handle_Book_Good) [(.t 7), (.t 8)]), o 10 (.un .not (.t 9))])
  (.cond (.t 10) (.seq (.reg [o 4 (.mov (.c .nils))])
    .ret) .skip))
  (.seq (.reg [o 11 (.load true 480 (.t 2)), o 12 (.mov (.t 1)), o 13 (.call (cf fn_forest_under) [(.t 11), (.t 12)]), o 14 (.call (cf fn_slices_Collect_handle_Handle) [(.t 13)]), o 4 (.mov (.t 14))])
  .ret)))⟩

def pf_forest_above : PF := ⟨6, [.t 4],
  (.seq (.reg [o 2 (.box (.t 0)), o 3 (.box (.t 1)), o 4 (.mov (.c .nilf))])
  (.seq (.reg [o 5 (.mkf (.func fn_forest_above_1) [] [(.t 2), (.t 3)]), o 4 (.mov (.t 5))])
  .ret))⟩

def pf_own_Owns_say : PF := ⟨49, [.cell 10 true 128, .t 11],
  (.seq (.reg [o 5 (.box (.t 0)), o 6 (.box (.t 1)), o 9 (.box (.t 4)), o 10 (.alloc z128_8087 none), o 11 (.mov (ci 0))])
  (.seq (.block 0 (.seq (.reg [o 15 (.faddr 0 (.t 6)), o 16 (.faddr 0 (.t 15)), o 17 (.load true 96 (.t 16)), o 18 (.mov (.t 2)), o 19 (.call (cf fn_handle_Book_Good) [(.t 17), (.t 18)]), o 20 (.un .not (.t 19)), o 14 (.mov (.t 20))])
    (.cond (.t 14) (.seq (.reg [o 21 (.load true 128 (.t 5)), u (.store 128 (.t 10) (.t 21)), o 11 (.mov (ci 4))])
      .ret) (.seq (.reg [o 23 (.load true 480 (.t 6)), o 24 (.mov (.t 2)), o 25 (.call (cf fn_forest_Root) [(.t 23), (.t 24)]), o 26 (.mov (.t 2)), o 27 (.ne .int (.t 25) (.t 26)), o 22 (.mov (.t 27))])
      (.cond (.t 22) (.seq (.reg [o 28 (.load true 128 (.t 5)), u (.store 128 (.t 10) (.t 28)), o 11 (.mov (ci 12))])
        .ret) (.seq (.reg [o 30 (.mov (.t 3)), o 31 (.bin .lss (.t 30) (ci 0)), o 32 (.mov (.t 31)), gf 32 (some 33) (.mov (.t 3)), gf 32 (some 34) (.bin .geq (.t 33) (ci 8)), o 35 (.pick (.t 32) (.c (.bool true)) (.t 34)), o 29 (.mov (.t 35))])
        (.cond (.t 29) (.seq (.reg [o 36 (.load true 128 (.t 5)), u (.store 128 (.t 10) (.t 36)), o 11 (.mov (ci 2))])
          .ret) .skip)))))))
  (.seq (.reg [o 38 (.mov (.t 2)), o 39 (.call (cf fn_handle_Handle_Slot) [(.t 38)]), o 37 (.mov (.t 39)), o 40 (.ext (.t 37) 0), o 41 (.ext (.t 37) 1), o 12 (.mov (.t 40)), o 13 (.mov (.t 41))])
  (.seq (.reg [o 42 (.mov (.t 12)), o 43 (.mov (.t 2)), o 44 (.load true 3 (.t 9)), o 45 (.build [(.int .u32 0), (.int .u8 0), (.int .u8 0), (.int .u8 0)] [(0, 1, (.t 43)), (1, 3, (.t 44))]), o 46 (.faddr 0 (.t 5)), o 47 (.iaddra 32 4 (.t 46) (.t 42)), u (.store 4 (.t 47) (.t 45))])
  (.seq (.reg [o 48 (.load true 128 (.t 5)), u (.store 128 (.t 10) (.t 48)), o 11 (.mov (ci 0))])
  .ret)))))⟩

def l1_handle_Book_Issue : PC :=
  (.seq (.reg [o 10 (.bin .lss (.t 9) (ci 32))])
  (.seq (.cond (.t 10) .skip (.exit 0))
  (.seq (.block 1 (.seq (.reg [o 11 (.mov (.t 9)), o 12 (.idxa true 32 3 (.t 8) (.t 9)), o 6 (.alloc [(.int .u32 0), (.bool false), (.bool false)] none), o 5 (.mov (.t 11)), u (.store 3 (.t 6) (.t 12))])
    (.seq (.seq (.reg [o 13 (.faddr 1 (.t 6)), o 14 (.load false 1 (.t 13)), o 15 (.mov (.t 14)), gf 15 (some 16) (.faddr 2 (.t 6)), gf 15 (some 17) (.load false 1 (.t 16)), o 18 (.pick (.t 15) (.c (.bool true)) (.t 17))])
    (.cond (.t 18) (.exit 1) .skip))
    (.seq (.reg [o 19 (.mov (.t 5)), o 20 (.faddr 0 (.t 1)), o 21 (.iaddra 32 3 (.t 20) (.t 19)), o 22 (.faddr 1 (.t 21)), u (.store 1 (.t 22) (.c (.bool true)))])
    (.seq (.dreg [(o 23 (.load true 96 (.t 1)), []), (o 24 (.mov (.t 5)), []), (o 25 (.faddr 0 (.t 6)), []), (o 26 (.load false 1 (.t 25)), [0]), (o 27 (.call (cf fn_handle_of) [(.t 24), (.t 26)]), [0]), (u (.store 96 (.t 2) (.t 23)), []), (o 3 (.mov (.t 27)), []), (o 4 (.mov (.c (.bool true))), [])])
    .ret)))))
  (.reg [o 28 (.bin .add (.t 9) (ci 1)), o 9 (.mov (.t 28))]))))
def pf_handle_Book_Issue : PF := ⟨30, [.cell 2 true 96, .t 3, .t 4],
  (.seq (.reg [o 1 (.box (.t 0)), o 2 (.alloc z96_9863 none), o 3 (.mov (.c (.int .u32 0))), o 4 (.mov (.c (.bool false)))])
  (.seq (.seq (.reg [o 7 (.faddr 0 (.t 1)), o 8 (.load true 96 (.t 7)), o 9 (.mov (ci 0))])
  (.block 0 (.loop l1_handle_Book_Issue)))
  (.seq (.reg [o 29 (.load true 96 (.t 1)), u (.store 96 (.t 2) (.t 29)), o 3 (.mov (.c (.int .u32 0))), o 4 (.mov (.c (.bool false)))])
  .ret)))⟩

def pf_handle_Book_At : PF := ⟨27, [.t 4, .t 5],
  (.seq (.reg [o 2 (.box (.t 0)), o 4 (.mov (.c (.int .u32 0))), o 5 (.mov (.c (.bool false)))])
  (.seq (.seq (.reg [o 6 (.mov (.t 1)), o 7 (.bin .lss (.t 6) (ci 0)), o 8 (.mov (.t 7)), gf 8 (some 9) (.mov (.t 1)), gf 8 (some 10) (.bin .geq (.t 9) (ci 32)), o 11 (.pick (.t 8) (.c (.bool true)) (.t 10)), o 12 (.mov (.t 11)), gf 12 (some 13) (.mov (.t 1)), gf 12 (some 14) (.faddr 0 (.t 2)), gf 12 (some 15) (.iaddra 32 3 (.t 14) (.t 13)), gf 12 (some 16) (.faddr 1 (.t 15)), gf 12 (some 17) (.load false 1 (.t 16)), gf 12 (some 18) (.un .not (.t 17)), o 19 (.pick (.t 12) (.c (.bool true)) (.t 18))])
  (.cond (.t 19) (.seq (.reg [o 4 (.mov (.c (.int .u32 0))), o 5 (.mov (.c (.bool false)))])
    .ret) .skip))
  (.seq (.reg [o 20 (.mov (.t 1)), o 21 (.mov (.t 1)), o 22 (.faddr 0 (.t 2)), o 23 (.iaddra 32 3 (.t 22) (.t 21)), o 24 (.faddr 0 (.t 23)), o 25 (.load false 1 (.t 24)), o 26 (.call (cf fn_handle_of) [(.t 20), (.t 25)]), o 4 (.mov (.t 26)), o 5 (.mov (.c (.bool true)))])
  .ret)))⟩

def pf_access_Who_lent : PF := ⟨15, [.t 8],
  (.seq (.reg [o 4 (.box (.t 0)), o 5 (.box (.t 1)), o 6 (.box (.t 2)), o 7 (.box (.t 3)), o 8 (.mov (.c (.bool false)))])
  (.seq (.reg [o 9 (.faddr 608 (.t 4)), o 10 (.load true 176 (.t 9)), o 11 (.load false 1 (.t 6)), o 12 (.call (cf fn_token_Tokens_On) [(.t 10), (.t 11)]), o 13 (.mkf (.func fn_access_Who_lent_1) [] [(.t 4), (.t 5), (.t 7), (.t 6)]), o 14 (.call (cf fn_slices_ContainsFunc_handle_Handle_handle_Handle) [(.t 12), (.t 13)]), o 8 (.mov (.t 14))])
  .ret))⟩

def pf_access_Who_owner_1 : PF := ⟨7, [.t 2],
  (.seq (.reg [o 2 (.mov (.c (.bool false)))])
  (.seq (.reg [o 3 (.faddr 608 (.t 0)), o 4 (.load true 176 (.t 3)), o 5 (.load false 1 (.t 1)), o 6 (.call (cf fn_token_Tokens_Reads) [(.t 4), (.t 5), (.c (.int .u32 0))]), o 2 (.mov (.t 6))])
  .ret))⟩

def pf_token_Tokens_Reads : PF := ⟨23, [.t 6],
  (.seq (.reg [o 3 (.box (.t 0)), o 6 (.mov (.c (.bool false)))])
  (.seq (.reg [o 10 (.load true 176 (.t 3)), o 11 (.mov (.t 1)), o 12 (.mov (.t 2)), o 13 (.call (cf fn_token_Tokens_right) [(.t 10), (.t 11), (.t 12)]), o 9 (.mov (.t 13)), o 14 (.ext (.t 9) 0), o 15 (.ext (.t 9) 1), o 7 (.mov (.t 14)), o 8 (.mov (.t 15))])
  (.seq (.reg [o 16 (.load true 176 (.t 3)), o 17 (.mov (.t 2)), o 18 (.call (cf fn_token_Tokens_good) [(.t 16), (.t 17)]), o 19 (.mov (.t 18)), gt 19 (some 20) (.mov (.t 8)), gt 19 (some 21) (.un .not (.t 20)), o 22 (.pick (.t 19) (.t 21) (.c (.bool false))), o 6 (.mov (.t 22))])
  .ret)))⟩

def pf_access_Who_owner_2 : PF := ⟨7, [.t 2],
  (.seq (.reg [o 2 (.mov (.c (.bool false)))])
  (.seq (.reg [o 3 (.faddr 608 (.t 0)), o 4 (.load true 176 (.t 3)), o 5 (.load false 1 (.t 1)), o 6 (.call (cf fn_token_Tokens_Writes) [(.t 4), (.t 5), (.c (.int .u32 0))]), o 2 (.mov (.t 6))])
  .ret))⟩

def pf_token_Tokens_Writes : PF := ⟨23, [.t 6],
  (.seq (.reg [o 3 (.box (.t 0)), o 6 (.mov (.c (.bool false)))])
  (.seq (.reg [o 10 (.load true 176 (.t 3)), o 11 (.mov (.t 1)), o 12 (.mov (.t 2)), o 13 (.call (cf fn_token_Tokens_right) [(.t 10), (.t 11), (.t 12)]), o 9 (.mov (.t 13)), o 14 (.ext (.t 9) 0), o 15 (.ext (.t 9) 1), o 7 (.mov (.t 14)), o 8 (.mov (.t 15))])
  (.seq (.reg [o 16 (.load true 176 (.t 3)), o 17 (.mov (.t 2)), o 18 (.call (cf fn_token_Tokens_good) [(.t 16), (.t 17)]), o 19 (.mov (.t 18)), gt 19 (some 20) (.mov (.t 7)), gt 19 (some 21) (.eq .int (.t 20) (ci 0)), o 22 (.pick (.t 19) (.t 21) (.c (.bool false))), o 6 (.mov (.t 22))])
  .ret)))⟩

def pf_access_Who_owner_3 : PF := ⟨10, [.t 2],
  (.seq (.reg [o 2 (.mov (.c (.bool false)))])
  (.seq (.reg [o 3 (.faddr 0 (.t 0)), o 4 (.load true 480 (.t 3)), o 5 (.load false 1 (.t 1)), o 6 (.call (cf fn_forest_Under) [(.t 4), (.t 5)]), o 7 (.mkf (.func fn_access_Who_owner_3_1) [] [(.t 0)]), o 8 (.call (cf fn_slices_ContainsFunc_handle_Handle_handle_Handle) [(.t 6), (.t 7)]), o 9 (.un .not (.t 8)), o 2 (.mov (.t 9))])
  .ret))⟩

def pf_slices_ContainsFunc_handle_Handle_handle_Handle : PF := ⟨9, [.t 4],
  (.seq (.reg [o 4 (.mov (.c (.bool false)))])
  (.seq (.reg [o 5 (.mov (.t 0)), o 6 (.mov (.t 1)), o 7 (.call (cf fn_slices_IndexFunc_handle_Handle_handle_Handle) [(.t 5), (.t 6)]), o 8 (.bin .geq (.t 7) (ci 0)), o 4 (.mov (.t 8))])
  .ret))⟩

def pf_access_Who_owner_3_1 : PF := ⟨10, [.t 3],
  (.seq (.reg [o 3 (.mov (.c (.bool false)))])
  (.seq (.reg [o 4 (.faddr 608 (.t 1)), o 5 (.load true 176 (.t 4)), o 6 (.mov (.t 0)), o 7 (.call (cf fn_token_Tokens_On) [(.t 5), (.t 6)]), o 8 (.len .sl (.t 7)), o 9 (.bin .gtr (.t 8) (ci 0)), o 3 (.mov (.t 9))])
  .ret))⟩

def pf_token_Tokens_On : PF := ⟨8, [.t 4],
  (.seq (.reg [o 2 (.box (.t 0)), o 3 (.box (.t 1)), o 4 (.mov (.c .nils))])
  (.seq (.reg [o 5 (.load true 176 (.t 2)), o 6 (.mkf (.func fn_token_Tokens_On_1) [] [(.t 3)]), o 7 (.call (cf fn_token_Tokens_those) [(.t 5), (.t 6)]), o 4 (.mov (.t 7))])
  .ret))⟩

def pf_table_quota : PF := ⟨9, [.t 2],
  (.seq (.reg [o 2 (.mov (.c (.bool false)))])
  (.seq (.reg [o 3 (.mov (.t 0)), o 4 (.bin .geq (.t 3) (ci 0)), o 5 (.mov (.t 4)), gt 5 (some 6) (.mov (.t 0)), gt 5 (some 7) (.bin .leq (.t 6) (ci 64)), o 8 (.pick (.t 5) (.t 7) (.c (.bool false))), o 2 (.mov (.t 8))])
  .ret))⟩

def pf_table_Table_up : PF := ⟨24, [.t 4],
  (.seq (.reg [o 2 (.box (.t 0)), o 4 (.mov (.c (.int .u32 0)))])
  (.seq (.reg [o 9 (.mov (.t 1)), o 10 (.call (cf fn_handle_Handle_Slot) [(.t 9)]), o 8 (.mov (.t 10)), o 11 (.ext (.t 8) 0), o 12 (.ext (.t 8) 1), o 5 (.mov (.t 11)), o 6 (.mov (.t 12))])
  (.seq (.seq (.reg [o 13 (.mov (.t 5)), o 14 (.faddr 96 (.t 2)), o 15 (.iaddra 32 12 (.t 14) (.t 13)), o 16 (.faddr 0 (.t 15)), o 17 (.load false 1 (.t 16)), o 7 (.mov (.t 17))])
  (.seq (.reg [o 18 (.faddr 0 (.t 2)), o 19 (.faddr 0 (.t 18)), o 20 (.load true 96 (.t 19)), o 21 (.mov (.t 7)), o 22 (.call (cf fn_handle_Book_Good) [(.t 20), (.t 21)])])
  (.cond (.t 22) (.seq (.reg [o 23 (.mov (.t 7)), o 4 (.mov (.t 23))])
    .ret) .skip)))
  (.seq (.reg [o 4 (.mov (.c (.int .u32 0)))])
  .ret))))⟩

def pf_slices_Collect_handle_Handle : PF := ⟨5, [.t 2],
  (.seq (.reg [o 2 (.mov (.c .nils))])
  (.seq (.reg [o 3 (.mov (.t 0)), o 4 (.call (cf fn_slices_AppendSeq_handle_Handle_handle_Handle) [(.c .nils), (.t 3)]), o 2 (.mov (.t 4))])
  .ret))⟩

def pf_forest_under : PF := ⟨6, [.t 4],
  (.seq (.reg [o 2 (.box (.t 0)), o 3 (.box (.t 1)), o 4 (.mov (.c .nilf))])
  (.seq (.reg [o 5 (.mkf (.func fn_forest_under_1) [] [(.t 3), (.t 2)]), o 4 (.mov (.t 5))])
  .ret))⟩

def l1_forest_above_1 : PC :=
  (.block 1 (.seq (.reg [o 7 (.load true 480 (.t 1)), o 8 (.load false 1 (.t 2)), o 9 (.call (cf fn_table_Table_Get) [(.t 7), (.t 8)]), o 6 (.mov (.t 9)), o 10 (.ext (.t 6) 0), o 11 (.ext (.t 6) 1), o 4 (.alloc [(.int .u32 0), (.int .i64 0), .nils, (.int .i64 0), (.int .u32 0), (.int .u32 0), (.int .u32 0), (.int .u32 0), (.int .u32 0), (.int .u32 0), (.int .u32 0), (.int .u32 0)] none), u (.store 12 (.t 4) (.t 10)), o 5 (.mov (.t 11))])
    (.seq (.seq (.reg [o 12 (.mov (.t 5)), o 13 (.ne .int (.t 12) (ci 0)), o 14 (.mov (.t 13)), gf 14 (some 15) (.faddr 0 (.t 4)), gf 14 (some 16) (.load false 1 (.t 15)), gf 14 (some 17) (.eq .int (.t 16) (.c (.int .u32 0))), o 18 (.pick (.t 14) (.c (.bool true)) (.t 17)), o 19 (.mov (.t 18)), gf 19 (some 20) (.mov (.t 0)), gf 19 (some 21) (.faddr 0 (.t 4)), gf 19 (some 22) (.load false 1 (.t 21)), gf 19 (some 23) (.call (.t 20) [(.t 22)]), gf 19 (some 24) (.un .not (.t 23)), o 25 (.pick (.t 19) (.c (.bool true)) (.t 24))])
    (.cond (.t 25) .ret .skip))
    (.reg [o 26 (.faddr 0 (.t 4)), o 27 (.load false 1 (.t 26)), u (.store 1 (.t 2) (.t 27))]))))
def pf_forest_above_1 : PF := ⟨28, [],
  (.block 0 (.loop l1_forest_above_1))⟩

def pf_token_Tokens_right : PF := ⟨16, [.t 6, .t 7],
  (.seq (.reg [o 3 (.box (.t 0)), o 4 (.box (.t 1)), o 5 (.box (.t 2)), o 6 (.mov (ci 0)), o 7 (.mov (.c (.bool false)))])
  (.seq (.reg [o 8 (.alloc [(.bool false)] none), u (.store 1 (.t 8) (.c (.bool false)))])
  (.seq (.reg [o 10 (.load true 176 (.t 3)), o 11 (.mkf (.func fn_token_Tokens_right_1) [] [(.t 4), (.t 5), (.t 8)]), o 12 (.call (cf fn_token_Tokens_those) [(.t 10), (.t 11)]), o 9 (.mov (.t 12))])
  (.seq (.dreg [(o 13 (.mov (.t 9)), []), (o 14 (.len .sl (.t 13)), []), (o 15 (.load false 1 (.t 8)), [1]), (o 6 (.mov (.t 14)), []), (o 7 (.mov (.t 15)), [])])
  .ret))))⟩

def pf_token_Tokens_good : PF := ⟨13, [.t 4],
  (.seq (.reg [o 2 (.box (.t 0)), o 4 (.mov (.c (.bool false)))])
  (.seq (.reg [o 5 (.mov (.t 1)), o 6 (.eq .int (.t 5) (.c (.int .u32 0))), o 7 (.mov (.t 6)), gf 7 (some 8) (.faddr 0 (.t 2)), gf 7 (some 9) (.load true 96 (.t 8)), gf 7 (some 10) (.mov (.t 1)), gf 7 (some 11) (.call (cf fn_handle_Book_Good) [(.t 9), (.t 10)]), o 12 (.pick (.t 7) (.c (.bool true)) (.t 11)), o 4 (.mov (.t 12))])
  .ret))⟩

def pf_handle_of : PF := ⟨11, [.t 4],
  (.seq (.reg [o 4 (.mov (.c (.int .u32 0)))])
  (.seq (.reg [o 5 (.mov (.t 1)), o 6 (.shf .shl (.t 5) (.c (.int .u64 8))), o 7 (.mov (.t 0)), o 8 (.conv .u32 (.t 7)), o 9 (.bin .add (.t 6) (.t 8)), o 10 (.bin .add (.t 9) (.c (.int .u32 1))), o 4 (.mov (.t 10))])
  .ret))⟩

def pf_access_Who_lent_1 : PF := ⟨47, [.t 6],
  (.seq (.reg [o 6 (.mov (.c (.bool false)))])
  (.seq (.reg [o 10 (.faddr 608 (.t 1)), o 11 (.load true 176 (.t 10)), o 12 (.mov (.t 0)), o 13 (.call (cf fn_token_Tokens_Get) [(.t 11), (.t 12)]), o 9 (.mov (.t 13)), o 14 (.ext (.t 9) 0), o 15 (.ext (.t 9) 1), o 7 (.alloc [(.int .u32 0), (.int .u8 0), (.int .u8 0), (.bool false), (.int .u32 0)] none), u (.store 5 (.t 7) (.t 14)), o 8 (.mov (.t 15))])
  (.seq (.reg [o 16 (.faddr 2 (.t 7)), o 17 (.load false 1 (.t 16)), o 18 (.conv .i64 (.t 17)), o 19 (.load false 1 (.t 2)), o 20 (.eq .int (.t 18) (.t 19)), o 21 (.mov (.t 20)), gt 21 (some 22) (.load false 1 (.t 3)), gt 21 (some 23) (.eq .int (.t 22) (.c (.int .u8 0))), gt 21 (some 24) (.mov (.t 23)), gt 24 (some 25) (.faddr 608 (.t 1)), gt 24 (some 26) (.load true 176 (.t 25)), gt 24 (some 27) (.load false 1 (.t 4)), gt 24 (some 28) (.mov (.t 0)), gt 24 (some 29) (.call (cf fn_token_Tokens_Reads) [(.t 26), (.t 27), (.t 28)]), gt 21 (some 30) (.pick (.t 24) (.t 29) (.c (.bool false))), gt 21 (some 31) (.mov (.t 30)), gf 31 (some 32) (.load false 1 (.t 3)), gf 31 (some 33) (.eq .int (.t 32) (.c (.int .u8 1))), gf 31 (some 34) (.mov (.t 33)), gt 34 (some 35) (.faddr 3 (.t 7)), gt 34 (some 36) (.load false 1 (.t 35)), gf 31 (some 37) (.pick (.t 34) (.t 36) (.c (.bool false))), gf 31 (some 38) (.mov (.t 37)), gt 38 (some 39) (.faddr 608 (.t 1)), gt 38 (some 40) (.load true 176 (.t 39)), gt 38 (some 41) (.load false 1 (.t 4)), gt 38 (some 42) (.mov (.t 0)), gt 38 (some 43) (.call (cf fn_token_Tokens_Writes) [(.t 40), (.t 41), (.t 42)]), gf 31 (some 44) (.pick (.t 38) (.t 43) (.c (.bool false))), gt 21 (some 45) (.pick (.t 31) (.c (.bool true)) (.t 44)), o 46 (.pick (.t 21) (.t 45) (.c (.bool false))), o 6 (.mov (.t 46))])
  .ret)))⟩

def l1_slices_IndexFunc_handle_Handle_handle_Handle : PC :=
  (.seq (.reg [o 9 (.bin .lss (.t 8) (.t 7))])
  (.seq (.cond (.t 9) .skip (.exit 0))
  (.seq (.block 1 (.seq (.reg [o 10 (.mov (.t 8)), o 5 (.mov (.t 10))])
    (.seq (.reg [o 11 (.mov (.t 1)), o 12 (.mov (.t 0)), o 13 (.mov (.t 5)), o 14 (.iaddrs 1 (.t 12) (.t 13)), o 15 (.load false 1 (.t 14)), o 16 (.call (.t 11) [(.t 15)])])
    (.cond (.t 16) (.seq (.reg [o 17 (.mov (.t 5)), o 4 (.mov (.t 17))])
      .ret) .skip))))
  (.reg [o 18 (.bin .add (.t 8) (ci 1)), o 8 (.mov (.t 18))]))))
def pf_slices_IndexFunc_handle_Handle_handle_Handle : PF := ⟨19, [.t 4],
  (.seq (.reg [o 4 (.mov (ci 0))])
  (.seq (.seq (.reg [o 6 (.mov (.t 0)), o 7 (.len .sl (.t 6)), o 8 (.mov (ci 0))])
  (.block 0 (.loop l1_slices_IndexFunc_handle_Handle_handle_Handle)))
  (.seq (.reg [o 4 (.mov (ci (-1)))])
  .ret)))⟩

def pf_token_Tokens_On_1 : PF := ⟨8, [.t 3],
  (.seq (.reg [o 2 (.box (.t 0)), o 3 (.mov (.c (.bool false)))])
  (.seq (.reg [o 4 (.faddr 0 (.t 2)), o 5 (.load false 1 (.t 4)), o 6 (.load false 1 (.t 1)), o 7 (.eq .int (.t 5) (.t 6)), o 3 (.mov (.t 7))])
  .ret))⟩

def l1_slices_AppendSeq_handle_Handle_handle_Handle : PC :=
  (.block 1 (.reg [o 8 (.load false 1 (.t 2)), o 9 (.mov (.t 5)), o 10 (.bslice [(.int .u32 0)] 1 [(0, 1, (.t 9))]), o 11 (.append ty_handle_Handle 1 4 (.t 8) (.t 10)), u (.store 1 (.t 2) (.t 11))]))
def pf_slices_AppendSeq_handle_Handle_handle_Handle : PF := ⟨13, [.t 4],
  (.seq (.reg [o 2 (.box (.t 0)), o 4 (.mov (.c .nils))])
  (.seq (.seq (.reg [o 6 (.mov (.t 1))])
  (.block 0 (.rfun (.t 6) [7] (.reg [o 5 (.mov (.t 7))]) l1_slices_AppendSeq_handle_Handle_handle_Handle)))
  (.seq (.reg [o 12 (.load false 1 (.t 2)), o 4 (.mov (.t 12))])
  .ret)))⟩

def l1_forest_under_1 : PC :=
  (.seq (.seq (.reg [o 9 (.mov (.t 4)), o 10 (.len .sl (.t 9)), o 11 (.bin .gtr (.t 10) (ci 0))])
  (.cond (.t 11) .skip (.exit 0)))
  (.block 1 (.seq (.reg [o 12 (.mov (.t 4)), o 13 (.mov (.t 4)), o 14 (.len .sl (.t 13)), o 15 (.bin .sub (.t 14) (ci 1)), o 16 (.iaddrs 1 (.t 12) (.t 15)), o 17 (.load false 1 (.t 16)), o 5 (.mov (.t 17))])
    (.seq (.seq (.reg [o 18 (.mov (.t 0)), o 19 (.mov (.t 5)), o 20 (.call (.t 18) [(.t 19)]), o 21 (.un .not (.t 20))])
    (.cond (.t 21) .ret .skip))
    (.seq (.reg [o 22 (.load true 480 (.t 2)), o 23 (.mov (.t 5)), o 24 (.call (cf fn_forest_Kids) [(.t 22), (.t 23)]), o 6 (.mov (.t 24))])
    (.seq (.reg [o 25 (.mov (.t 6)), o 26 (.call (cf fn_slices_Reverse_handle_Handle_handle_Handle) [(.t 25)])])
    (.reg [o 27 (.mov (.t 4)), o 28 (.mov (.t 4)), o 29 (.len .sl (.t 28)), o 30 (.bin .sub (.t 29) (ci 1)), o 31 (.slsl 1 (.t 27) none (some (.t 30)) none), o 32 (.mov (.t 6)), o 33 (.append ty_handle_Handle 1 4 (.t 31) (.t 32)), o 4 (.mov (.t 33))])))))))
def pf_forest_under_1 : PF := ⟨34, [],
  (.seq (.reg [o 7 (.load false 1 (.t 1)), o 8 (.bslice [(.int .u32 0)] 1 [(0, 1, (.t 7))]), o 4 (.mov (.t 8))])
  (.block 0 (.loop l1_forest_under_1)))⟩

def pf_forest_Kids : PF := ⟨16, [.t 4],
  (.seq (.reg [o 2 (.box (.t 0)), o 3 (.box (.t 1)), o 4 (.mov (.c .nils))])
  (.seq (.seq (.reg [o 5 (.faddr 0 (.t 2)), o 6 (.faddr 0 (.t 5)), o 7 (.load true 96 (.t 6)), o 8 (.load false 1 (.t 3)), o 9 (.call (cf fn_handle_Book_Good) [(.t 7), (.t 8)]), o 10 (.un .not (.t 9))])
  (.cond (.t 10) (.seq (.reg [o 4 (.mov (.c .nils))])
    .ret) .skip))
  (.seq (.reg [o 11 (.faddr 0 (.t 2)), o 12 (.load true 96 (.t 11)), o 13 (.call (cf fn_table_book_All) [(.t 12)]), o 14 (.mkf (.func fn_forest_Kids_1) [] [(.t 2), (.t 3)]), o 15 (.call (cf fn_slices_DeleteFunc_handle_Handle_handle_Handle) [(.t 13), (.t 14)]), o 4 (.mov (.t 15))])
  .ret)))⟩

def l1_slices_Reverse_handle_Handle_handle_Handle : PC :=
  (.seq (.seq (.reg [o 7 (.mov (.t 2)), o 8 (.mov (.t 3)), o 9 (.bin .lss (.t 7) (.t 8))])
  (.cond (.t 9) .skip (.exit 0)))
  (.seq (.block 1 (.dreg [(o 14 (.mov (.t 0)), []), (o 15 (.mov (.t 2)), []), (o 16 (.mov (.t 0)), []), (o 17 (.mov (.t 3)), []), (o 18 (.mov (.t 0)), []), (o 19 (.mov (.t 3)), []), (o 20 (.iaddrs 1 (.t 18) (.t 19)), []), (o 21 (.load false 1 (.t 20)), []), (o 22 (.mov (.t 0)), []), (o 23 (.mov (.t 2)), []), (o 24 (.iaddrs 1 (.t 22) (.t 23)), []), (o 25 (.load false 1 (.t 24)), [7]), (o 26 (.iaddrs 1 (.t 14) (.t 15)), []), (u (.store 1 (.t 26) (.t 21)), []), (o 27 (.iaddrs 1 (.t 16) (.t 17)), []), (u (.store 1 (.t 27) (.t 25)), [])]))
  (.reg [o 10 (.mov (.t 2)), o 11 (.bin .add (.t 10) (ci 1)), o 12 (.mov (.t 3)), o 13 (.bin .sub (.t 12) (ci 1)), o 2 (.mov (.t 11)), o 3 (.mov (.t 13))])))
def pf_slices_Reverse_handle_Handle_handle_Handle : PF := ⟨28, [],
  (.seq (.reg [o 4 (.mov (.t 0)), o 5 (.len .sl (.t 4)), o 6 (.bin .sub (.t 5) (ci 1)), o 2 (.mov (ci 0)), o 3 (.mov (.t 6))])
  (.block 0 (.loop l1_slices_Reverse_handle_Handle_handle_Handle)))⟩

def pf_token_Tokens_right_1 : PF := ⟨26, [.t 5],
  (.seq (.reg [o 4 (.box (.t 0)), o 5 (.mov (.c (.bool false)))])
  (.seq (.reg [o 7 (.faddr 0 (.t 4)), o 8 (.load false 1 (.t 7)), o 9 (.load false 1 (.t 1)), o 10 (.eq .int (.t 8) (.t 9)), o 11 (.mov (.t 10)), gt 11 (some 12) (.faddr 4 (.t 4)), gt 11 (some 13) (.load false 1 (.t 12)), gt 11 (some 14) (.load false 1 (.t 2)), gt 11 (some 15) (.eq .int (.t 13) (.t 14)), o 16 (.pick (.t 11) (.t 15) (.c (.bool false))), o 6 (.mov (.t 16))])
  (.seq (.reg [o 17 (.load false 1 (.t 3)), o 18 (.mov (.t 17)), gf 18 (some 19) (.mov (.t 6)), gf 18 (some 20) (.mov (.t 19)), gt 20 (some 21) (.faddr 3 (.t 4)), gt 20 (some 22) (.load false 1 (.t 21)), gf 18 (some 23) (.pick (.t 20) (.t 22) (.c (.bool false))), o 24 (.pick (.t 18) (.c (.bool true)) (.t 23)), u (.store 1 (.t 3) (.t 24))])
  (.seq (.reg [o 25 (.mov (.t 6)), o 5 (.mov (.t 25))])
  .ret))))⟩

def l1_slices_DeleteFunc_handle_Handle_handle_Handle : PC :=
  (.seq (.seq (.reg [o 16 (.mov (.t 6)), o 17 (.mov (.t 0)), o 18 (.len .sl (.t 17)), o 19 (.bin .lss (.t 16) (.t 18))])
  (.cond (.t 19) .skip (.exit 0)))
  (.seq (.block 1 (.seq (.reg [o 22 (.mov (.t 0)), o 23 (.mov (.t 6)), o 24 (.iaddrs 1 (.t 22) (.t 23)), o 25 (.load false 1 (.t 24)), o 7 (.mov (.t 25))])
    (.seq (.reg [o 26 (.mov (.t 1)), o 27 (.mov (.t 7)), o 28 (.call (.t 26) [(.t 27)]), o 29 (.un .not (.t 28))])
    (.cond (.t 29) (.seq (.reg [o 30 (.mov (.t 0)), o 31 (.mov (.t 5)), o 32 (.mov (.t 7)), o 33 (.iaddrs 1 (.t 30) (.t 31)), u (.store 1 (.t 33) (.t 32))])
      (.reg [o 34 (.mov (.t 5)), o 35 (.bin .add (.t 34) (ci 1)), o 5 (.mov (.t 35))])) .skip))))
  (.reg [o 20 (.mov (.t 6)), o 21 (.bin .add (.t 20) (ci 1)), o 6 (.mov (.t 21))])))
def pf_slices_DeleteFunc_handle_Handle_handle_Handle : PF := ⟨42, [.t 4],
  (.seq (.reg [o 4 (.mov (.c .nils))])
  (.seq (.reg [o 8 (.mov (.t 0)), o 9 (.mov (.t 1)), o 10 (.call (cf fn_slices_IndexFunc_handle_Handle_handle_Handle) [(.t 8), (.t 9)]), o 5 (.mov (.t 10))])
  (.seq (.seq (.reg [o 11 (.mov (.t 5)), o 12 (.eq .int (.t 11) (ci (-1)))])
  (.cond (.t 12) (.seq (.reg [o 13 (.mov (.t 0)), o 4 (.mov (.t 13))])
    .ret) .skip))
  (.seq (.seq (.reg [o 14 (.mov (.t 5)), o 15 (.bin .add (.t 14) (ci 1)), o 6 (.mov (.t 15))])
  (.block 0 (.loop l1_slices_DeleteFunc_handle_Handle_handle_Handle)))
  (.seq (.reg [o 36 (.mov (.t 0)), o 37 (.mov (.t 5)), o 38 (.slsl 1 (.t 36) (some (.t 37)) none none), u (.clear [(.int .u32 0)] (.t 38))])
  (.seq (.reg [o 39 (.mov (.t 0)), o 40 (.mov (.t 5)), o 41 (.slsl 1 (.t 39) none (some (.t 40)) none), o 4 (.mov (.t 41))])
  .ret))))))⟩

def pf_forest_Kids_1 : PF := ⟨17, [.t 4],
  (.seq (.reg [o 4 (.mov (.c (.bool false)))])
  (.seq (.reg [o 8 (.load true 480 (.t 1)), o 9 (.mov (.t 0)), o 10 (.call (cf fn_table_Table_Get) [(.t 8), (.t 9)]), o 7 (.mov (.t 10)), o 11 (.ext (.t 7) 0), o 12 (.ext (.t 7) 1), o 5 (.alloc [(.int .u32 0), (.int .i64 0), .nils, (.int .i64 0), (.int .u32 0), (.int .u32 0), (.int .u32 0), (.int .u32 0), (.int .u32 0), (.int .u32 0), (.int .u32 0), (.int .u32 0)] none), u (.store 12 (.t 5) (.t 11)), o 6 (.mov (.t 12))])
  (.seq (.reg [o 13 (.faddr 0 (.t 5)), o 14 (.load false 1 (.t 13)), o 15 (.load false 1 (.t 2)), o 16 (.ne .int (.t 14) (.t 15)), o 4 (.mov (.t 16))])
  .ret)))⟩

def recT : List (Nat × PRec) := [(fn_linear_Search_1, pr_linear_Search_1), (fn_Pmodel_caller_calls_1, pr_Pmodel_caller_calls_1)]

def codeT : List (Nat × PF) := [(fn_law32_LinearWidens, pf_law32_LinearWidens), (fn_law32_wakes, pf_law32_wakes), (fn_linear_Widen, pf_linear_Widen), (fn_slices_Clone_machine_Event_machine_Event, pf_slices_Clone_machine_Event_machine_Event), (fn_linear_search, pf_linear_search), (fn_linear_search_1, pf_linear_search_1), (fn_linear_search_2, pf_linear_search_2), (fn_linear_after, pf_linear_after), (fn_model_Begin, pf_model_Begin), (fn_model_State_Needs, pf_model_State_Needs), (fn_model_State_Do, pf_model_State_Do), (fn_model_ask, pf_model_ask), (fn_handle_Handle_Slot, pf_handle_Handle_Slot), (fn_handle_Book_Issued, pf_handle_Book_Issued), (fn_table_book_All, pf_table_book_All), (fn_access_Who_owner, pf_access_Who_owner), (fn_Pmodel_caller_new, pf_Pmodel_caller_new), (fn_Pmodel_caller_spawn, pf_Pmodel_caller_spawn), (fn_Pmodel_caller_may, pf_Pmodel_caller_may), (fn_forest_New, pf_forest_New), (fn_model_fine, pf_model_fine), (fn_Pmodel_caller_owns, pf_Pmodel_caller_owns), (fn_forest_Root, pf_forest_Root), (fn_handle_Book_Good, pf_handle_Book_Good), (fn_own_Owns_Of, pf_own_Owns_Of), (fn_token_Tokens_Get, pf_token_Tokens_Get), (fn_token_Tokens_those, pf_token_Tokens_those), (fn_access_Who_May, pf_access_Who_May), (fn_table_Table_New, pf_table_Table_New), (fn_forest_Depth, pf_forest_Depth), (fn_own_Owns_Give, pf_own_Owns_Give), (fn_table_Table_Get, pf_table_Table_Get), (fn_forest_Under, pf_forest_Under), (fn_forest_above, pf_forest_above), (fn_own_Owns_say, pf_own_Owns_say), (fn_handle_Book_Issue, pf_handle_Book_Issue), (fn_handle_Book_At, pf_handle_Book_At), (fn_access_Who_lent, pf_access_Who_lent), (fn_access_Who_owner_1, pf_access_Who_owner_1), (fn_token_Tokens_Reads, pf_token_Tokens_Reads), (fn_access_Who_owner_2, pf_access_Who_owner_2), (fn_token_Tokens_Writes, pf_token_Tokens_Writes), (fn_access_Who_owner_3, pf_access_Who_owner_3), (fn_slices_ContainsFunc_handle_Handle_handle_Handle, pf_slices_ContainsFunc_handle_Handle_handle_Handle), (fn_access_Who_owner_3_1, pf_access_Who_owner_3_1), (fn_token_Tokens_On, pf_token_Tokens_On), (fn_table_quota, pf_table_quota), (fn_table_Table_up, pf_table_Table_up), (fn_slices_Collect_handle_Handle, pf_slices_Collect_handle_Handle), (fn_forest_under, pf_forest_under), (fn_forest_above_1, pf_forest_above_1), (fn_token_Tokens_right, pf_token_Tokens_right), (fn_token_Tokens_good, pf_token_Tokens_good), (fn_handle_of, pf_handle_of), (fn_access_Who_lent_1, pf_access_Who_lent_1), (fn_slices_IndexFunc_handle_Handle_handle_Handle, pf_slices_IndexFunc_handle_Handle_handle_Handle), (fn_token_Tokens_On_1, pf_token_Tokens_On_1), (fn_slices_AppendSeq_handle_Handle_handle_Handle, pf_slices_AppendSeq_handle_Handle_handle_Handle), (fn_forest_under_1, pf_forest_under_1), (fn_forest_Kids, pf_forest_Kids), (fn_slices_Reverse_handle_Handle_handle_Handle, pf_slices_Reverse_handle_Handle_handle_Handle), (fn_token_Tokens_right_1, pf_token_Tokens_right_1), (fn_slices_DeleteFunc_handle_Handle_handle_Handle, pf_slices_DeleteFunc_handle_Handle_handle_Handle), (fn_forest_Kids_1, pf_forest_Kids_1)]

theorem ok_law32_LinearWidens : OkF Tryd.prog fn_law32_LinearWidens pf_law32_LinearWidens := ⟨false, Tryd.f3, Tryd.func3, by kernel_rfl⟩
theorem ok_law32_wakes : OkF Tryd.prog fn_law32_wakes pf_law32_wakes := ⟨true, Tryd.f4, Tryd.func4, by kernel_rfl⟩
theorem ok_linear_Widen : OkF Tryd.prog fn_linear_Widen pf_linear_Widen := ⟨false, Tryd.f5, Tryd.func5, by kernel_rfl⟩
theorem okD_linear_Search : prepD Tryd.prog false Tryd.f6 = some pd_linear_Search := by kernel_rfl
theorem ok_slices_Clone_machine_Event_machine_Event : OkF Tryd.prog fn_slices_Clone_machine_Event_machine_Event pf_slices_Clone_machine_Event_machine_Event := ⟨false, Tryd.f7, Tryd.func7, by kernel_rfl⟩
theorem okR_linear_Search_1 : prepR Tryd.prog false Tryd.f8 = some pr_linear_Search_1 := by kernel_rfl
theorem ok_linear_search : OkF Tryd.prog fn_linear_search pf_linear_search := ⟨false, Tryd.f9, Tryd.func9, by kernel_rfl⟩
theorem ok_linear_search_1 : OkF Tryd.prog fn_linear_search_1 pf_linear_search_1 := ⟨false, Tryd.f10, Tryd.func10, by kernel_rfl⟩
theorem ok_linear_search_2 : OkF Tryd.prog fn_linear_search_2 pf_linear_search_2 := ⟨false, Tryd.f11, Tryd.func11, by kernel_rfl⟩
theorem ok_linear_after : OkF Tryd.prog fn_linear_after pf_linear_after := ⟨false, Tryd.f12, Tryd.func12, by kernel_rfl⟩
theorem ok_model_Begin : OkF Tryd.prog fn_model_Begin pf_model_Begin := ⟨false, Tryd.f13, Tryd.func13, by kernel_rfl⟩
theorem ok_model_State_Needs : OkF Tryd.prog fn_model_State_Needs pf_model_State_Needs := ⟨false, Tryd.f14, Tryd.func14, by kernel_rfl⟩
theorem ok_model_State_Do : OkF Tryd.prog fn_model_State_Do pf_model_State_Do := ⟨false, Tryd.f15, Tryd.func15, by kernel_rfl⟩
theorem okD_Pmodel_caller_calls : prepD Tryd.prog false Tryd.f16 = some pd_Pmodel_caller_calls := by kernel_rfl
theorem okR_Pmodel_caller_calls_1 : prepR Tryd.prog false Tryd.f17 = some pr_Pmodel_caller_calls_1 := by kernel_rfl
theorem ok_model_ask : OkF Tryd.prog fn_model_ask pf_model_ask := ⟨false, Tryd.f18, Tryd.func18, by kernel_rfl⟩
theorem ok_handle_Handle_Slot : OkF Tryd.prog fn_handle_Handle_Slot pf_handle_Handle_Slot := ⟨false, Tryd.f34, Tryd.func34, by kernel_rfl⟩
theorem ok_handle_Book_Issued : OkF Tryd.prog fn_handle_Book_Issued pf_handle_Book_Issued := ⟨false, Tryd.f37, Tryd.func37, by kernel_rfl⟩
theorem ok_table_book_All : OkF Tryd.prog fn_table_book_All pf_table_book_All := ⟨false, Tryd.f38, Tryd.func38, by kernel_rfl⟩
theorem ok_access_Who_owner : OkF Tryd.prog fn_access_Who_owner pf_access_Who_owner := ⟨false, Tryd.f42, Tryd.func42, by kernel_rfl⟩
theorem ok_Pmodel_caller_new : OkF Tryd.prog fn_Pmodel_caller_new pf_Pmodel_caller_new := ⟨false, Tryd.f46, Tryd.func46, by kernel_rfl⟩
theorem ok_Pmodel_caller_spawn : OkF Tryd.prog fn_Pmodel_caller_spawn pf_Pmodel_caller_spawn := ⟨false, Tryd.f66, Tryd.func66, by kernel_rfl⟩
theorem ok_Pmodel_caller_may : OkF Tryd.prog fn_Pmodel_caller_may pf_Pmodel_caller_may := ⟨false, Tryd.f67, Tryd.func67, by kernel_rfl⟩
theorem ok_forest_New : OkF Tryd.prog fn_forest_New pf_forest_New := ⟨false, Tryd.f68, Tryd.func68, by kernel_rfl⟩
theorem ok_model_fine : OkF Tryd.prog fn_model_fine pf_model_fine := ⟨false, Tryd.f69, Tryd.func69, by kernel_rfl⟩
theorem ok_Pmodel_caller_owns : OkF Tryd.prog fn_Pmodel_caller_owns pf_Pmodel_caller_owns := ⟨false, Tryd.f70, Tryd.func70, by kernel_rfl⟩
theorem ok_forest_Root : OkF Tryd.prog fn_forest_Root pf_forest_Root := ⟨false, Tryd.f82, Tryd.func82, by kernel_rfl⟩
theorem ok_handle_Book_Good : OkF Tryd.prog fn_handle_Book_Good pf_handle_Book_Good := ⟨false, Tryd.f90, Tryd.func90, by kernel_rfl⟩
theorem ok_own_Owns_Of : OkF Tryd.prog fn_own_Owns_Of pf_own_Owns_Of := ⟨false, Tryd.f91, Tryd.func91, by kernel_rfl⟩
theorem ok_token_Tokens_Get : OkF Tryd.prog fn_token_Tokens_Get pf_token_Tokens_Get := ⟨false, Tryd.f92, Tryd.func92, by kernel_rfl⟩
theorem ok_token_Tokens_those : OkF Tryd.prog fn_token_Tokens_those pf_token_Tokens_those := ⟨false, Tryd.f106, Tryd.func106, by kernel_rfl⟩
theorem ok_access_Who_May : OkF Tryd.prog fn_access_Who_May pf_access_Who_May := ⟨false, Tryd.f108, Tryd.func108, by kernel_rfl⟩
theorem ok_table_Table_New : OkF Tryd.prog fn_table_Table_New pf_table_Table_New := ⟨false, Tryd.f109, Tryd.func109, by kernel_rfl⟩
theorem ok_forest_Depth : OkF Tryd.prog fn_forest_Depth pf_forest_Depth := ⟨false, Tryd.f110, Tryd.func110, by kernel_rfl⟩
theorem ok_own_Owns_Give : OkF Tryd.prog fn_own_Owns_Give pf_own_Owns_Give := ⟨false, Tryd.f111, Tryd.func111, by kernel_rfl⟩
theorem ok_table_Table_Get : OkF Tryd.prog fn_table_Table_Get pf_table_Table_Get := ⟨false, Tryd.f113, Tryd.func113, by kernel_rfl⟩
theorem ok_forest_Under : OkF Tryd.prog fn_forest_Under pf_forest_Under := ⟨false, Tryd.f120, Tryd.func120, by kernel_rfl⟩
theorem ok_forest_above : OkF Tryd.prog fn_forest_above pf_forest_above := ⟨false, Tryd.f123, Tryd.func123, by kernel_rfl⟩
theorem ok_own_Owns_say : OkF Tryd.prog fn_own_Owns_say pf_own_Owns_say := ⟨false, Tryd.f128, Tryd.func128, by kernel_rfl⟩
theorem ok_handle_Book_Issue : OkF Tryd.prog fn_handle_Book_Issue pf_handle_Book_Issue := ⟨false, Tryd.f132, Tryd.func132, by kernel_rfl⟩
theorem ok_handle_Book_At : OkF Tryd.prog fn_handle_Book_At pf_handle_Book_At := ⟨false, Tryd.f136, Tryd.func136, by kernel_rfl⟩
theorem ok_access_Who_lent : OkF Tryd.prog fn_access_Who_lent pf_access_Who_lent := ⟨false, Tryd.f144, Tryd.func144, by kernel_rfl⟩
theorem ok_access_Who_owner_1 : OkF Tryd.prog fn_access_Who_owner_1 pf_access_Who_owner_1 := ⟨false, Tryd.f145, Tryd.func145, by kernel_rfl⟩
theorem ok_token_Tokens_Reads : OkF Tryd.prog fn_token_Tokens_Reads pf_token_Tokens_Reads := ⟨false, Tryd.f146, Tryd.func146, by kernel_rfl⟩
theorem ok_access_Who_owner_2 : OkF Tryd.prog fn_access_Who_owner_2 pf_access_Who_owner_2 := ⟨false, Tryd.f147, Tryd.func147, by kernel_rfl⟩
theorem ok_token_Tokens_Writes : OkF Tryd.prog fn_token_Tokens_Writes pf_token_Tokens_Writes := ⟨false, Tryd.f148, Tryd.func148, by kernel_rfl⟩
theorem ok_access_Who_owner_3 : OkF Tryd.prog fn_access_Who_owner_3 pf_access_Who_owner_3 := ⟨false, Tryd.f149, Tryd.func149, by kernel_rfl⟩
theorem ok_slices_ContainsFunc_handle_Handle_handle_Handle : OkF Tryd.prog fn_slices_ContainsFunc_handle_Handle_handle_Handle pf_slices_ContainsFunc_handle_Handle_handle_Handle := ⟨false, Tryd.f150, Tryd.func150, by kernel_rfl⟩
theorem ok_access_Who_owner_3_1 : OkF Tryd.prog fn_access_Who_owner_3_1 pf_access_Who_owner_3_1 := ⟨false, Tryd.f151, Tryd.func151, by kernel_rfl⟩
theorem ok_token_Tokens_On : OkF Tryd.prog fn_token_Tokens_On pf_token_Tokens_On := ⟨false, Tryd.f152, Tryd.func152, by kernel_rfl⟩
theorem ok_table_quota : OkF Tryd.prog fn_table_quota pf_table_quota := ⟨false, Tryd.f153, Tryd.func153, by kernel_rfl⟩
theorem ok_table_Table_up : OkF Tryd.prog fn_table_Table_up pf_table_Table_up := ⟨false, Tryd.f155, Tryd.func155, by kernel_rfl⟩
theorem ok_slices_Collect_handle_Handle : OkF Tryd.prog fn_slices_Collect_handle_Handle pf_slices_Collect_handle_Handle := ⟨false, Tryd.f158, Tryd.func158, by kernel_rfl⟩
theorem ok_forest_under : OkF Tryd.prog fn_forest_under pf_forest_under := ⟨false, Tryd.f159, Tryd.func159, by kernel_rfl⟩
theorem ok_forest_above_1 : OkF Tryd.prog fn_forest_above_1 pf_forest_above_1 := ⟨false, Tryd.f161, Tryd.func161, by kernel_rfl⟩
theorem ok_token_Tokens_right : OkF Tryd.prog fn_token_Tokens_right pf_token_Tokens_right := ⟨false, Tryd.f164, Tryd.func164, by kernel_rfl⟩
theorem ok_token_Tokens_good : OkF Tryd.prog fn_token_Tokens_good pf_token_Tokens_good := ⟨false, Tryd.f165, Tryd.func165, by kernel_rfl⟩
theorem ok_handle_of : OkF Tryd.prog fn_handle_of pf_handle_of := ⟨false, Tryd.f166, Tryd.func166, by kernel_rfl⟩
theorem ok_access_Who_lent_1 : OkF Tryd.prog fn_access_Who_lent_1 pf_access_Who_lent_1 := ⟨false, Tryd.f170, Tryd.func170, by kernel_rfl⟩
theorem ok_slices_IndexFunc_handle_Handle_handle_Handle : OkF Tryd.prog fn_slices_IndexFunc_handle_Handle_handle_Handle pf_slices_IndexFunc_handle_Handle_handle_Handle := ⟨false, Tryd.f171, Tryd.func171, by kernel_rfl⟩
theorem ok_token_Tokens_On_1 : OkF Tryd.prog fn_token_Tokens_On_1 pf_token_Tokens_On_1 := ⟨false, Tryd.f172, Tryd.func172, by kernel_rfl⟩
theorem ok_slices_AppendSeq_handle_Handle_handle_Handle : OkF Tryd.prog fn_slices_AppendSeq_handle_Handle_handle_Handle pf_slices_AppendSeq_handle_Handle_handle_Handle := ⟨false, Tryd.f175, Tryd.func175, by kernel_rfl⟩
theorem ok_forest_under_1 : OkF Tryd.prog fn_forest_under_1 pf_forest_under_1 := ⟨false, Tryd.f176, Tryd.func176, by kernel_rfl⟩
theorem ok_forest_Kids : OkF Tryd.prog fn_forest_Kids pf_forest_Kids := ⟨false, Tryd.f177, Tryd.func177, by kernel_rfl⟩
theorem ok_slices_Reverse_handle_Handle_handle_Handle : OkF Tryd.prog fn_slices_Reverse_handle_Handle_handle_Handle pf_slices_Reverse_handle_Handle_handle_Handle := ⟨false, Tryd.f178, Tryd.func178, by kernel_rfl⟩
theorem ok_token_Tokens_right_1 : OkF Tryd.prog fn_token_Tokens_right_1 pf_token_Tokens_right_1 := ⟨false, Tryd.f179, Tryd.func179, by kernel_rfl⟩
theorem ok_slices_DeleteFunc_handle_Handle_handle_Handle : OkF Tryd.prog fn_slices_DeleteFunc_handle_Handle_handle_Handle pf_slices_DeleteFunc_handle_Handle_handle_Handle := ⟨false, Tryd.f181, Tryd.func181, by kernel_rfl⟩
theorem ok_forest_Kids_1 : OkF Tryd.prog fn_forest_Kids_1 pf_forest_Kids_1 := ⟨false, Tryd.f182, Tryd.func182, by kernel_rfl⟩

set_option maxRecDepth 100000 in
theorem codeT_ok : ∀ x ∈ codeT, OkF Tryd.prog x.1 x.2 := by
  unfold codeT
  simp only [List.forall_mem_cons]
  exact ⟨ok_law32_LinearWidens, ok_law32_wakes, ok_linear_Widen, ok_slices_Clone_machine_Event_machine_Event, ok_linear_search, ok_linear_search_1, ok_linear_search_2, ok_linear_after, ok_model_Begin, ok_model_State_Needs, ok_model_State_Do, ok_model_ask, ok_handle_Handle_Slot, ok_handle_Book_Issued, ok_table_book_All, ok_access_Who_owner, ok_Pmodel_caller_new, ok_Pmodel_caller_spawn, ok_Pmodel_caller_may, ok_forest_New, ok_model_fine, ok_Pmodel_caller_owns, ok_forest_Root, ok_handle_Book_Good, ok_own_Owns_Of, ok_token_Tokens_Get, ok_token_Tokens_those, ok_access_Who_May, ok_table_Table_New, ok_forest_Depth, ok_own_Owns_Give, ok_table_Table_Get, ok_forest_Under, ok_forest_above, ok_own_Owns_say, ok_handle_Book_Issue, ok_handle_Book_At, ok_access_Who_lent, ok_access_Who_owner_1, ok_token_Tokens_Reads, ok_access_Who_owner_2, ok_token_Tokens_Writes, ok_access_Who_owner_3, ok_slices_ContainsFunc_handle_Handle_handle_Handle, ok_access_Who_owner_3_1, ok_token_Tokens_On, ok_table_quota, ok_table_Table_up, ok_slices_Collect_handle_Handle, ok_forest_under, ok_forest_above_1, ok_token_Tokens_right, ok_token_Tokens_good, ok_handle_of, ok_access_Who_lent_1, ok_slices_IndexFunc_handle_Handle_handle_Handle, ok_token_Tokens_On_1, ok_slices_AppendSeq_handle_Handle_handle_Handle, ok_forest_under_1, ok_forest_Kids, ok_slices_Reverse_handle_Handle_handle_Handle, ok_token_Tokens_right_1, ok_slices_DeleteFunc_handle_Handle_handle_Handle, ok_forest_Kids_1, by simp⟩

end Go.Proofs.YtohnmnbdmcoflaaDoor
