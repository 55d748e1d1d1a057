/- The code of the laws of layer 23 in compact form is what is made of the translated code (no conditions). -/
import Derived.Test.YtoolhdikfdjikaaDoorDenC
import Derived.Test.YtoolhdikfdjikaaDoorProg
import Derived.KernelRfl
set_option linter.unusedVariables false
set_option linter.unusedSimpArgs false
set_option linter.unusedSectionVars false
set_option linter.deprecated false

/- The compact code of the functions (written by a program; checked below). -/
namespace Go.Proofs.YtoolhdikfdjikaaDoor
open Go Go.Den

def fn_law23_AsmPrints : Nat := 3
def fn_law23_AsmBack : Nat := 4
def fn_law23_AsmLoose : Nat := 5
def fn_law23_AsmNames : Nat := 6
def fn_law23_wakes : Nat := 7
def fn_asm_Word : Nat := 8
def fn_ref23_Word : Nat := 9
def fn_asm_Print : Nat := 10
def fn_law13_Of : Nat := 11
def fn_ref13_May : Nat := 12
def fn_ref23_Print : Nat := 13
def fn_code_May : Nat := 14
def fn_asm_Parse : Nat := 15
def fn_law23_row : Nat := 16
def fn_law23_split : Nat := 17
def fn_asm_Print_1 : Nat := 18
def fn_strconv_Itoa : Nat := 19
def fn_slices_ContainsFunc_code_Instr_code_Instr : Nat := 20
def fn_asm_Print_2 : Nat := 21
def fn_asm_goes : Nat := 22
def fn_Pstrings_Builder_WriteString : Nat := 23
def fn_Pstrings_Builder_String : Nat := 24
def fn_ref23_digits : Nat := 25
def fn_code_May_1 : Nat := 26
def fn_code_Instr_may : Nat := 27
def fn_strings_Split : Nat := 28
def fn_Pasm_parser_line : Nat := 29
def fn_istrconv_Itoa : Nat := 30
def fn_slices_IndexFunc_code_Instr_code_Instr : Nat := 31
def fn_Pstrings_Builder_copyCheck : Nat := 32
def fn_strings_genSplit : Nat := 33
def fn_strings_Cut : Nat := 34
def fn_Pasm_parser_line_1 : Nat := 35
def fn_strings_FieldsFunc : Nat := 36
def fn_Pasm_parser_line_1_1 : Nat := 37
def fn_asm_labelled : Nat := 38
def fn_Pasm_parser_instr : Nat := 39
def fn_istrconv_FormatInt : Nat := 40
def fn_strings_explode : Nat := 42
def fn_strings_Count : Nat := 43
def fn_strings_Index : Nat := 44
def fn_istringslite_Cut : Nat := 45
def fn_strings_Trim : Nat := 46
def fn_slices_Index_string_string : Nat := 47
def fn_asm_number : Nat := 48
def fn_istrconv_small : Nat := 49
def fn_istrconv_numDigits : Nat := 50
def fn_istrconv_formatBase10 : Nat := 51
def fn_istrconv_formatBits : Nat := 52
def fn_unicode_utf8_RuneCountInString : Nat := 53
def fn_unicode_utf8_DecodeRuneInString : Nat := 54
def fn_ibytealg_CountString : Nat := 55
def fn_istringslite_Index : Nat := 56
def fn_strings_trimLeftByte : Nat := 57
def fn_strings_trimRightByte : Nat := 58
def fn_strings_makeASCIISet : Nat := 59
def fn_strings_trimLeftASCII : Nat := 60
def fn_strings_trimRightASCII : Nat := 61
def fn_strings_trimLeftUnicode : Nat := 62
def fn_strings_trimRightUnicode : Nat := 63
def fn_strconv_ParseUint : Nat := 64
def fn_strconv_FormatUint : Nat := 65
def fn_istrconv_log10Pow2 : Nat := 66
def fn_math_bits_Len64 : Nat := 67
def fn_istrconv_bool2_int : Nat := 68
def fn_istrconv_isPowerOfTwo : Nat := 69
def fn_math_bits_TrailingZeros : Nat := 70
def fn_unicode_utf8_decodeRuneInStringSlow : Nat := 71
def fn_istringslite_IndexByte : Nat := 72
def fn_ibytealg_IndexString : Nat := 73
def fn_ibytealg_Cutover : Nat := 74
def fn_ibytealg_IndexRabinKarp_string : Nat := 75
def fn_Pstrings_asciiSet_contains : Nat := 76
def fn_strings_ContainsRune : Nat := 77
def fn_unicode_utf8_DecodeLastRuneInString : Nat := 78
def fn_istrconv_ParseUint : Nat := 79
def fn_strconv_toError : Nat := 80
def fn_istrconv_FormatUint : Nat := 81
def fn_math_bits_TrailingZeros32 : Nat := 82
def fn_math_bits_TrailingZeros64 : Nat := 83
def fn_ibytealg_IndexByteString : Nat := 84
def fn_ibytealg_hashStr_string : Nat := 85
def fn_strings_IndexRune : Nat := 86
def fn_unicode_utf8_RuneStart : Nat := 87
def fn_istrconv_lower : Nat := 88
def fn_istrconv_underscoreOK : Nat := 89
def fn_strconv_syntaxError : Nat := 90
def fn_strconv_rangeError : Nat := 91
def fn_strconv_baseError : Nat := 92
def fn_strconv_bitSizeError : Nat := 93
def fn_istringslite_Clone : Nat := 96
def fn_errors_New : Nat := 97
def ty_uint8 : Nat := 5
def ty_string : Nat := 9
def ty_code_Instr : Nat := 45
def ty_strings_Builder : Nat := 50
def ty_ref13_Instr : Nat := 60
def ty_asm_use : Nat := 70
def ty_strings_span : Nat := 88
def ty_strconv_Error : Nat := 131
def ty_p_strconv_NumError : Nat := 133
def ty_p_errors_errorString : Nat := 142
def g_asm_words : Nat := 0
def g_istrconv_uint64pow10 : Nat := 1
def g_ibytealg_MaxLen : Nat := 2
def g_unicode_utf8_first : Nat := 3
def g_unicode_utf8_acceptRanges : Nat := 4
def g_math_bits_deBruijn32tab : Nat := 5
def g_math_bits_deBruijn64tab : Nat := 6
def g_strconv_ErrSyntax : Nat := 7
def g_strconv_ErrRange : Nat := 8
def str_104803d2 : List UInt8 := [97, 58, 32, 115, 101, 116, 32, 114, 48, 32, 114, 48, 32, 114, 48, 32, 51, 32, 59, 32, 116, 104, 114, 101, 101, 10, 10, 106, 117, 109, 112, 32, 114, 48, 32, 114, 48, 9, 114, 48, 32, 97]
def str_11c1601c : List UInt8 := [0, 1, 2, 2, 3, 3, 3, 3, 4, 4, 4, 4, 4, 4, 4, 4, 5, 5, 5, 5, 5, 5, 5, 5, 5, 5, 5, 5, 5, 5, 5, 5, 6, 6, 6, 6, 6, 6, 6, 6, 6, 6, 6, 6, 6, 6, 6, 6, 6, 6, 6, 6, 6, 6, 6, 6, 6, 6, 6, 6, 6, 6, 6, 6, 7, 7, 7, 7, 7, 7, 7, 7, 7, 7, 7, 7, 7, 7, 7, 7, 7, 7, 7, 7, 7, 7, 7, 7, 7, 7, 7, 7, 7, 7, 7, 7, 7, 7, 7, 7, 7, 7, 7, 7, 7, 7, 7, 7, 7, 7, 7, 7, 7, 7, 7, 7, 7, 7, 7, 7, 7, 7, 7, 7, 7, 7, 7, 7, 8, 8, 8, 8, 8, 8, 8, 8, 8, 8, 8, 8, 8, 8, 8, 8, 8, 8, 8, 8, 8, 8, 8, 8, 8, 8, 8, 8, 8, 8, 8, 8, 8, 8, 8, 8, 8, 8, 8, 8, 8, 8, 8, 8, 8, 8, 8, 8, 8, 8, 8, 8, 8, 8, 8, 8, 8, 8, 8, 8, 8, 8, 8, 8, 8, 8, 8, 8, 8, 8, 8, 8, 8, 8, 8, 8, 8, 8, 8, 8, 8, 8, 8, 8, 8, 8, 8, 8, 8, 8, 8, 8, 8, 8, 8, 8, 8, 8, 8, 8, 8, 8, 8, 8, 8, 8, 8, 8, 8, 8, 8, 8, 8, 8, 8, 8, 8, 8, 8, 8, 8, 8, 8, 8, 8, 8, 8, 8]
def str_87730c3d : List UInt8 := [48, 48, 48, 49, 48, 50, 48, 51, 48, 52, 48, 53, 48, 54, 48, 55, 48, 56, 48, 57, 49, 48, 49, 49, 49, 50, 49, 51, 49, 52, 49, 53, 49, 54, 49, 55, 49, 56, 49, 57, 50, 48, 50, 49, 50, 50, 50, 51, 50, 52, 50, 53, 50, 54, 50, 55, 50, 56, 50, 57, 51, 48, 51, 49, 51, 50, 51, 51, 51, 52, 51, 53, 51, 54, 51, 55, 51, 56, 51, 57, 52, 48, 52, 49, 52, 50, 52, 51, 52, 52, 52, 53, 52, 54, 52, 55, 52, 56, 52, 57, 53, 48, 53, 49, 53, 50, 53, 51, 53, 52, 53, 53, 53, 54, 53, 55, 53, 56, 53, 57, 54, 48, 54, 49, 54, 50, 54, 51, 54, 52, 54, 53, 54, 54, 54, 55, 54, 56, 54, 57, 55, 48, 55, 49, 55, 50, 55, 51, 55, 52, 55, 53, 55, 54, 55, 55, 55, 56, 55, 57, 56, 48, 56, 49, 56, 50, 56, 51, 56, 52, 56, 53, 56, 54, 56, 55, 56, 56, 56, 57, 57, 48, 57, 49, 57, 50, 57, 51, 57, 52, 57, 53, 57, 54, 57, 55, 57, 56, 57, 57]
def str_dfc6f27b : List UInt8 := [97, 98, 99, 100, 101, 102, 103, 104, 105, 106, 107, 108, 109, 110, 111, 112, 113, 114, 115, 116, 117, 118, 119, 120, 121, 122, 48, 49, 50, 51, 52, 53, 54, 55, 56, 57]
def str_e13c1349 : List UInt8 := [108, 48, 58, 10, 115, 101, 116, 32, 114, 48, 32, 114, 48, 32, 114, 48, 32, 51, 10, 106, 117, 109, 112, 32, 114, 48, 32, 114, 48, 32, 114, 48, 32, 108, 48, 10]
def str_e8a41dda : List UInt8 := [115, 116, 114, 99, 111, 110, 118, 58, 32, 105, 108, 108, 101, 103, 97, 108, 32, 65, 112, 112, 101, 110, 100, 73, 110, 116, 47, 70, 111, 114, 109, 97, 116, 73, 110, 116, 32, 98, 97, 115, 101]
def str_fdb5537d : List UInt8 := [48, 49, 50, 51, 52, 53, 54, 55, 56, 57, 97, 98, 99, 100, 101, 102, 103, 104, 105, 106, 107, 108, 109, 110, 111, 112, 113, 114, 115, 116, 117, 118, 119, 120, 121, 122]
def str_fff270d2 : List UInt8 := [104, 97, 108, 116, 32, 114, 48, 32, 114, 48, 32, 114, 48, 32, 48, 10, 105, 102, 32, 114, 48, 32, 114, 48, 32, 114, 48, 32, 98, 10, 98, 58]
def tys_int : List Nat := [2, 3, 5, 6, 12, 21, 27, 40, 95, 117, 119, 131, 151, 152, 154, 155]

def pf_law23_AsmPrints : PF := ⟨60, [.t 4],
  (.seq (.reg [o 4 (.mov (.c (.bool false)))])
  (.seq (.seq (.reg [o 10 (.mov (.t 0)), o 11 (.len .sl (.t 10)), o 12 (.bin .gtr (.t 11) (ci 200))])
  (.cond (.t 12) (.seq (.reg [o 13 (.call (cf fn_law23_wakes) []), o 4 (.mov (.t 13))])
    .ret) .skip))
  (.seq (.reg [o 15 (.mov (.t 1)), o 16 (.call (cf fn_asm_Word) [(.t 15)]), o 14 (.mov (.t 16)), o 17 (.ext (.t 14) 0), o 18 (.ext (.t 14) 1), o 5 (.mov (.t 17)), o 6 (.mov (.t 18))])
  (.seq (.seq (.reg [o 19 (.mov (.t 5)), o 20 (.mov (.t 1)), o 21 (.conv .i64 (.t 20)), o 22 (.call (cf fn_ref23_Word) [(.t 21)]), o 23 (.ne .str (.t 19) (.t 22)), o 24 (.mov (.t 23)), gf 24 (some 25) (.mov (.t 6)), gf 24 (some 26) (.mov (.t 5)), gf 24 (some 27) (.ne .str (.t 26) (.c (S []))), gf 24 (some 28) (.ne .bool (.t 25) (.t 27)), o 29 (.pick (.t 24) (.c (.bool true)) (.t 28))])
  (.cond (.t 29) (.seq (.reg [o 4 (.mov (.c (.bool false)))])
    .ret) .skip))
  (.seq (.reg [o 31 (.mov (.t 0)), o 32 (.call (cf fn_asm_Print) [(.t 31)]), o 30 (.mov (.t 32)), o 33 (.ext (.t 30) 0), o 34 (.ext (.t 30) 1), o 7 (.mov (.t 33)), o 8 (.mov (.t 34))])
  (.seq (.reg [o 35 (.mov (.t 0)), o 36 (.call (cf fn_law13_Of) [(.t 35)]), o 9 (.mov (.t 36))])
  (.seq (.seq (.reg [o 37 (.mov (.t 9)), o 38 (.call (cf fn_ref13_May) [(.t 37)]), o 39 (.un .not (.t 38))])
  (.cond (.t 39) (.seq (.reg [o 40 (.mov (.t 7)), o 41 (.eq .str (.t 40) (.c (S []))), o 42 (.mov (.t 41)), gt 42 (some 43) (.mov (.t 8)), gt 42 (some 44) (.eq .int (.t 43) (ci 3)), o 45 (.pick (.t 42) (.t 44) (.c (.bool false))), o 46 (.mov (.t 45)), gt 46 (some 47) (.call (cf fn_law23_wakes) []), o 48 (.pick (.t 46) (.t 47) (.c (.bool false))), o 4 (.mov (.t 48))])
    .ret) .skip))
  (.seq (.reg [o 49 (.mov (.t 7)), o 50 (.mov (.t 9)), o 51 (.call (cf fn_ref23_Print) [(.t 50)]), o 52 (.eq .str (.t 49) (.t 51)), o 53 (.mov (.t 52)), gt 53 (some 54) (.mov (.t 8)), gt 53 (some 55) (.eq .int (.t 54) (ci 0)), o 56 (.pick (.t 53) (.t 55) (.c (.bool false))), o 57 (.mov (.t 56)), gt 57 (some 58) (.call (cf fn_law23_wakes) []), o 59 (.pick (.t 57) (.t 58) (.c (.bool false))), o 4 (.mov (.t 59))])
  .ret))))))))⟩

def pf_law23_AsmBack : PF := ⟨107, [.t 4],
  (.seq (.reg [o 4 (.mov (.c (.bool false)))])
  (.seq (.seq (.reg [o 18 (.mov (.t 0)), o 19 (.len .sl (.t 18)), o 20 (.bin .gtr (.t 19) (ci 200)), o 21 (.mov (.t 20)), gf 21 (some 22) (.mov (.t 1)), gf 21 (some 23) (.len .str (.t 22)), gf 21 (some 24) (.bin .gtr (.t 23) (ci 5000)), o 25 (.pick (.t 21) (.c (.bool true)) (.t 24))])
  (.cond (.t 25) (.seq (.reg [o 26 (.call (cf fn_law23_wakes) []), o 4 (.mov (.t 26))])
    .ret) .skip))
  (.seq (.reg [o 28 (.mov (.t 0)), o 29 (.call (cf fn_asm_Print) [(.t 28)]), o 27 (.mov (.t 29)), o 30 (.ext (.t 27) 0), o 31 (.ext (.t 27) 1), o 5 (.mov (.t 30)), o 6 (.mov (.t 31))])
  (.seq (.seq (.reg [o 32 (.mov (.t 6)), o 33 (.eq .int (.t 32) (ci 0)), o 34 (.mov (.t 0)), o 35 (.call (cf fn_code_May) [(.t 34)]), o 36 (.ne .bool (.t 33) (.t 35))])
  (.cond (.t 36) (.seq (.reg [o 4 (.mov (.c (.bool false)))])
    .ret) .skip))
  (.seq (.seq (.reg [o 37 (.mov (.t 6)), o 38 (.eq .int (.t 37) (ci 0))])
  (.cond (.t 38) (.seq (.reg [o 40 (.mov (.t 5)), o 41 (.call (cf fn_asm_Parse) [(.t 40)]), o 39 (.mov (.t 41)), o 42 (.ext (.t 39) 0), o 43 (.ext (.t 39) 1), o 44 (.ext (.t 39) 2), o 7 (.mov (.t 42)), o 8 (.mov (.t 43)), o 9 (.mov (.t 44))])
    (.seq (.reg [o 45 (.mov (.t 9)), o 46 (.ne .int (.t 45) (ci 0)), o 47 (.mov (.t 46)), gf 47 (some 48) (.mov (.t 8)), gf 47 (some 49) (.ne .int (.t 48) (ci 0)), o 50 (.pick (.t 47) (.c (.bool true)) (.t 49)), o 51 (.mov (.t 50)), gf 51 (some 52) (.mov (.t 7)), gf 51 (some 53) (.mov (.t 0)), gf 51 (some 54) (.call (cf fn_law23_row) [(.t 52), (.t 53)]), gf 51 (some 55) (.un .not (.t 54)), o 56 (.pick (.t 51) (.c (.bool true)) (.t 55))])
    (.cond (.t 56) (.seq (.reg [o 4 (.mov (.c (.bool false)))])
      .ret) .skip))) .skip))
  (.seq (.reg [o 58 (.mov (.t 1)), o 59 (.call (cf fn_asm_Parse) [(.t 58)]), o 57 (.mov (.t 59)), o 60 (.ext (.t 57) 0), o 61 (.ext (.t 57) 1), o 62 (.ext (.t 57) 2), o 10 (.mov (.t 60)), o 11 (.mov (.t 61)), o 12 (.mov (.t 62))])
  (.seq (.seq (.reg [o 63 (.mov (.t 12)), o 64 (.ne .int (.t 63) (ci 0))])
  (.cond (.t 64) (.seq (.reg [o 65 (.mov (.t 10)), o 66 (.len .sl (.t 65)), o 67 (.eq .int (.t 66) (ci 0)), o 68 (.mov (.t 67)), gt 68 (some 69) (.mov (.t 12)), gt 68 (some 70) (.eq .int (.t 69) (ci 3)), gt 68 (some 71) (.mov (.t 11)), gt 68 (some 72) (.bin .gtr (.t 71) (ci 0)), gt 68 (some 73) (.eq .bool (.t 70) (.t 72)), o 74 (.pick (.t 68) (.t 73) (.c (.bool false))), o 75 (.mov (.t 74)), gt 75 (some 76) (.call (cf fn_law23_wakes) []), o 77 (.pick (.t 75) (.t 76) (.c (.bool false))), o 4 (.mov (.t 77))])
    .ret) .skip))
  (.seq (.reg [o 79 (.mov (.t 10)), o 80 (.call (cf fn_asm_Print) [(.t 79)]), o 78 (.mov (.t 80)), o 81 (.ext (.t 78) 0), o 82 (.ext (.t 78) 1), o 13 (.mov (.t 81)), o 14 (.mov (.t 82))])
  (.seq (.reg [o 84 (.mov (.t 13)), o 85 (.call (cf fn_asm_Parse) [(.t 84)]), o 83 (.mov (.t 85)), o 86 (.ext (.t 83) 0), o 87 (.ext (.t 83) 1), o 88 (.ext (.t 83) 2), o 15 (.mov (.t 86)), o 16 (.mov (.t 87)), o 17 (.mov (.t 88))])
  (.seq (.reg [o 89 (.mov (.t 10)), o 90 (.call (cf fn_code_May) [(.t 89)]), o 91 (.mov (.t 90)), gt 91 (some 92) (.mov (.t 14)), gt 91 (some 93) (.eq .int (.t 92) (ci 0)), o 94 (.pick (.t 91) (.t 93) (.c (.bool false))), o 95 (.mov (.t 94)), gt 95 (some 96) (.mov (.t 17)), gt 95 (some 97) (.eq .int (.t 96) (ci 0)), o 98 (.pick (.t 95) (.t 97) (.c (.bool false))), o 99 (.mov (.t 98)), gt 99 (some 100) (.mov (.t 15)), gt 99 (some 101) (.mov (.t 10)), gt 99 (some 102) (.call (cf fn_law23_row) [(.t 100), (.t 101)]), o 103 (.pick (.t 99) (.t 102) (.c (.bool false))), o 104 (.mov (.t 103)), gt 104 (some 105) (.call (cf fn_law23_wakes) []), o 106 (.pick (.t 104) (.t 105) (.c (.bool false))), o 4 (.mov (.t 106))])
  .ret))))))))))⟩

def l2_law23_AsmLoose : PC :=
  (.seq (.seq (.reg [o 49 (.mov (.t 13)), o 50 (.mov (.t 9)), o 51 (.len .sl (.t 50)), o 52 (.bin .lss (.t 49) (.t 51))])
  (.cond (.t 52) .skip (.exit 2)))
  (.seq (.block 3 (.seq (.reg [o 55 (.mov (.t 9)), o 56 (.mov (.t 13)), o 57 (.iaddrs 1 (.t 55) (.t 56)), o 58 (.load false 1 (.t 57)), o 14 (.mov (.t 58))])
    (.seq (.seq (.reg [o 59 (.mov (.t 13)), o 60 (.mov (.t 10)), o 61 (.eq .int (.t 59) (.t 60)), o 62 (.mov (.t 61)), gt 62 (some 63) (.mov (.t 3)), gt 62 (some 64) (.bin .rem (.t 63) (.c (.int .u8 4))), gt 62 (some 65) (.eq .int (.t 64) (.c (.int .u8 0))), o 66 (.pick (.t 62) (.t 65) (.c (.bool false)))])
    (.cond (.t 66) (.reg [o 67 (.mov (.t 12)), o 68 (.bin .add (.t 67) (.c (S [32, 9, 10]))), o 12 (.mov (.t 68))]) .skip))
    (.seq (.seq (.reg [o 69 (.mov (.t 13)), o 70 (.mov (.t 10)), o 71 (.eq .int (.t 69) (.t 70)), o 72 (.mov (.t 71)), gt 72 (some 73) (.mov (.t 3)), gt 72 (some 74) (.bin .rem (.t 73) (.c (.int .u8 4))), gt 72 (some 75) (.eq .int (.t 74) (.c (.int .u8 1))), o 76 (.pick (.t 72) (.t 75) (.c (.bool false)))])
    (.cond (.t 76) (.reg [o 77 (.mov (.t 12)), o 78 (.bin .add (.t 77) (.c (S [59]))), o 79 (.mov (.t 1)), o 80 (.bin .add (.t 78) (.t 79)), o 81 (.bin .add (.t 80) (.c (S [10]))), o 12 (.mov (.t 81))]) .skip))
    (.seq (.seq (.reg [o 82 (.mov (.t 13)), o 83 (.mov (.t 10)), o 84 (.eq .int (.t 82) (.t 83)), o 85 (.mov (.t 84)), gt 85 (some 86) (.mov (.t 3)), gt 85 (some 87) (.bin .rem (.t 86) (.c (.int .u8 4))), gt 85 (some 88) (.eq .int (.t 87) (.c (.int .u8 2))), o 89 (.pick (.t 85) (.t 88) (.c (.bool false)))])
    (.cond (.t 89) (.reg [o 90 (.mov (.t 14)), o 91 (.bin .add (.c (S [9, 32])) (.t 90)), o 92 (.bin .add (.t 91) (.c (S [32]))), o 14 (.mov (.t 92))]) .skip))
    (.seq (.seq (.reg [o 93 (.mov (.t 13)), o 94 (.mov (.t 10)), o 95 (.eq .int (.t 93) (.t 94)), o 96 (.mov (.t 95)), gt 96 (some 97) (.mov (.t 3)), gt 96 (some 98) (.bin .rem (.t 97) (.c (.int .u8 4))), gt 96 (some 99) (.eq .int (.t 98) (.c (.int .u8 3))), o 100 (.pick (.t 96) (.t 99) (.c (.bool false)))])
    (.cond (.t 100) (.reg [o 101 (.mov (.t 14)), o 102 (.bin .add (.t 101) (.c (S [59]))), o 103 (.mov (.t 1)), o 104 (.bin .add (.t 102) (.t 103)), o 14 (.mov (.t 104))]) .skip))
    (.seq (.reg [o 105 (.mov (.t 12)), o 106 (.mov (.t 14)), o 107 (.bin .add (.t 105) (.t 106)), o 12 (.mov (.t 107))])
    (.seq (.reg [o 108 (.mov (.t 13)), o 109 (.mov (.t 9)), o 110 (.len .sl (.t 109)), o 111 (.bin .sub (.t 110) (ci 1)), o 112 (.bin .lss (.t 108) (.t 111))])
    (.cond (.t 112) (.reg [o 113 (.mov (.t 12)), o 114 (.bin .add (.t 113) (.c (S [10]))), o 12 (.mov (.t 114))]) .skip)))))))))
  (.reg [o 53 (.mov (.t 13)), o 54 (.bin .add (.t 53) (ci 1)), o 13 (.mov (.t 54))])))
def l1_law23_AsmLoose : PC :=
  (.seq (.seq (.reg [o 38 (.mov (.t 11)), o 39 (.mov (.t 1)), o 40 (.len .str (.t 39)), o 41 (.bin .lss (.t 38) (.t 40))])
  (.cond (.t 41) .skip (.exit 0)))
  (.seq (.block 1 (.seq (.reg [o 44 (.mov (.t 1)), o 45 (.mov (.t 11)), o 46 (.idxs (.t 44) (.t 45)), o 47 (.eq .int (.t 46) (.c (.int .u8 10)))])
    (.cond (.t 47) (.seq (.reg [o 48 (.call (cf fn_law23_wakes) []), o 8 (.mov (.t 48))])
      .ret) .skip)))
  (.reg [o 42 (.mov (.t 11)), o 43 (.bin .add (.t 42) (ci 1)), o 11 (.mov (.t 43))])))
def pf_law23_AsmLoose : PF := ⟨153, [.t 8],
  (.seq (.reg [o 8 (.mov (.c (.bool false)))])
  (.seq (.seq (.reg [o 22 (.mov (.t 0)), o 23 (.len .str (.t 22)), o 24 (.bin .gtr (.t 23) (ci 5000)), o 25 (.mov (.t 24)), gf 25 (some 26) (.mov (.t 1)), gf 25 (some 27) (.len .str (.t 26)), gf 25 (some 28) (.bin .gtr (.t 27) (ci 50)), o 29 (.pick (.t 25) (.c (.bool true)) (.t 28))])
  (.cond (.t 29) (.seq (.reg [o 30 (.call (cf fn_law23_wakes) []), o 8 (.mov (.t 30))])
    .ret) .skip))
  (.seq (.reg [o 31 (.mov (.t 0)), o 32 (.call (cf fn_law23_split) [(.t 31)]), o 9 (.mov (.t 32))])
  (.seq (.reg [o 33 (.mov (.t 2)), o 34 (.conv .i64 (.t 33)), o 35 (.mov (.t 9)), o 36 (.len .sl (.t 35)), o 37 (.bin .rem (.t 34) (.t 36)), o 10 (.mov (.t 37))])
  (.seq (.seq (.reg [o 11 (.mov (ci 0))])
  (.block 0 (.loop l1_law23_AsmLoose)))
  (.seq (.reg [o 12 (.mov (.c (S [])))])
  (.seq (.seq (.reg [o 13 (.mov (ci 0))])
  (.block 2 (.loop l2_law23_AsmLoose)))
  (.seq (.reg [o 116 (.mov (.t 0)), o 117 (.call (cf fn_asm_Parse) [(.t 116)]), o 115 (.mov (.t 117)), o 118 (.ext (.t 115) 0), o 119 (.ext (.t 115) 1), o 120 (.ext (.t 115) 2), o 15 (.mov (.t 118)), o 16 (.mov (.t 119)), o 17 (.mov (.t 120))])
  (.seq (.reg [o 122 (.mov (.t 12)), o 123 (.call (cf fn_asm_Parse) [(.t 122)]), o 121 (.mov (.t 123)), o 124 (.ext (.t 121) 0), o 125 (.ext (.t 121) 1), o 126 (.ext (.t 121) 2), o 18 (.mov (.t 124)), o 19 (.mov (.t 125)), o 20 (.mov (.t 126))])
  (.seq (.reg [o 21 (.mov (ci 0))])
  (.seq (.seq (.reg [o 127 (.mov (.t 3)), o 128 (.bin .rem (.t 127) (.c (.int .u8 4))), o 129 (.bin .lss (.t 128) (.c (.int .u8 2))), o 130 (.mov (.t 129)), gt 130 (some 131) (.mov (.t 16)), gt 130 (some 132) (.mov (.t 10)), gt 130 (some 133) (.bin .gtr (.t 131) (.t 132)), o 134 (.pick (.t 130) (.t 133) (.c (.bool false)))])
  (.cond (.t 134) (.reg [o 21 (.mov (ci 1))]) .skip))
  (.seq (.reg [o 135 (.mov (.t 17)), o 136 (.mov (.t 20)), o 137 (.eq .int (.t 135) (.t 136)), o 138 (.mov (.t 137)), gt 138 (some 139) (.mov (.t 15)), gt 138 (some 140) (.mov (.t 18)), gt 138 (some 141) (.call (cf fn_law23_row) [(.t 139), (.t 140)]), o 142 (.pick (.t 138) (.t 141) (.c (.bool false))), o 143 (.mov (.t 142)), gt 143 (some 144) (.mov (.t 19)), gt 143 (some 145) (.mov (.t 16)), gt 143 (some 146) (.mov (.t 21)), gt 143 (some 147) (.bin .add (.t 145) (.t 146)), gt 143 (some 148) (.eq .int (.t 144) (.t 147)), o 149 (.pick (.t 143) (.t 148) (.c (.bool false))), o 150 (.mov (.t 149)), gt 150 (some 151) (.call (cf fn_law23_wakes) []), o 152 (.pick (.t 150) (.t 151) (.c (.bool false))), o 8 (.mov (.t 152))])
  .ret))))))))))))⟩

def l2_law23_AsmNames : PC :=
  (.seq (.seq (.reg [o 53 (.mov (.t 9)), o 54 (.mov (.t 6)), o 55 (.len .str (.t 54)), o 56 (.bin .lss (.t 53) (.t 55))])
  (.cond (.t 56) .skip (.exit 2)))
  (.seq (.block 3 (.seq (.reg [o 59 (.mov (.t 9)), o 60 (.eq .int (.t 59) (ci 0)), o 61 (.mov (.t 60)), gf 61 (some 62) (.mov (.t 6)), gf 61 (some 63) (.mov (.t 9)), gf 61 (some 64) (.bin .sub (.t 63) (ci 1)), gf 61 (some 65) (.idxs (.t 62) (.t 64)), gf 61 (some 66) (.eq .int (.t 65) (.c (.int .u8 10))), o 67 (.pick (.t 61) (.c (.bool true)) (.t 66)), o 68 (.mov (.t 67)), gf 68 (some 69) (.mov (.t 6)), gf 68 (some 70) (.mov (.t 9)), gf 68 (some 71) (.bin .sub (.t 70) (ci 1)), gf 68 (some 72) (.idxs (.t 69) (.t 71)), gf 68 (some 73) (.eq .int (.t 72) (.c (.int .u8 32))), o 74 (.pick (.t 68) (.c (.bool true)) (.t 73)), o 10 (.mov (.t 74))])
    (.seq (.reg [o 75 (.mov (.t 6)), o 76 (.mov (.t 9)), o 77 (.idxs (.t 75) (.t 76)), o 78 (.eq .int (.t 77) (.c (.int .u8 108))), o 79 (.mov (.t 78)), gt 79 (some 80) (.mov (.t 10)), o 81 (.pick (.t 79) (.t 80) (.c (.bool false))), o 82 (.mov (.t 81)), gt 82 (some 83) (.mov (.t 9)), gt 82 (some 84) (.bin .add (.t 83) (ci 1)), gt 82 (some 85) (.mov (.t 6)), gt 82 (some 86) (.len .str (.t 85)), gt 82 (some 87) (.bin .lss (.t 84) (.t 86)), o 88 (.pick (.t 82) (.t 87) (.c (.bool false))), o 89 (.mov (.t 88)), gt 89 (some 90) (.mov (.t 6)), gt 89 (some 91) (.mov (.t 9)), gt 89 (some 92) (.bin .add (.t 91) (ci 1)), gt 89 (some 93) (.idxs (.t 90) (.t 92)), gt 89 (some 94) (.bin .geq (.t 93) (.c (.int .u8 48))), o 95 (.pick (.t 89) (.t 94) (.c (.bool false))), o 96 (.mov (.t 95)), gt 96 (some 97) (.mov (.t 6)), gt 96 (some 98) (.mov (.t 9)), gt 96 (some 99) (.bin .add (.t 98) (ci 1)), gt 96 (some 100) (.idxs (.t 97) (.t 99)), gt 96 (some 101) (.bin .leq (.t 100) (.c (.int .u8 57))), o 102 (.pick (.t 96) (.t 101) (.c (.bool false)))])
    (.cond (.t 102) (.reg [o 103 (.mov (.t 8)), o 104 (.mov (.t 1)), o 105 (.bin .add (.t 103) (.t 104)), o 8 (.mov (.t 105))]) (.reg [o 106 (.mov (.t 8)), o 107 (.mov (.t 6)), o 108 (.mov (.t 9)), o 109 (.mov (.t 9)), o 110 (.bin .add (.t 109) (ci 1)), o 111 (.slstr (.t 107) (some (.t 108)) (some (.t 110))), o 112 (.bin .add (.t 106) (.t 111)), o 8 (.mov (.t 112))])))))
  (.reg [o 57 (.mov (.t 9)), o 58 (.bin .add (.t 57) (ci 1)), o 9 (.mov (.t 58))])))
def l1_law23_AsmNames : PC :=
  (.seq (.seq (.reg [o 28 (.mov (.t 5)), o 29 (.mov (.t 1)), o 30 (.len .str (.t 29)), o 31 (.bin .lss (.t 28) (.t 30))])
  (.cond (.t 31) .skip (.exit 0)))
  (.seq (.block 1 (.seq (.reg [o 34 (.mov (.t 1)), o 35 (.mov (.t 5)), o 36 (.idxs (.t 34) (.t 35)), o 37 (.bin .lss (.t 36) (.c (.int .u8 97))), o 38 (.mov (.t 37)), gf 38 (some 39) (.mov (.t 1)), gf 38 (some 40) (.mov (.t 5)), gf 38 (some 41) (.idxs (.t 39) (.t 40)), gf 38 (some 42) (.bin .gtr (.t 41) (.c (.int .u8 122))), o 43 (.pick (.t 38) (.c (.bool true)) (.t 42))])
    (.cond (.t 43) (.seq (.reg [o 44 (.call (cf fn_law23_wakes) []), o 4 (.mov (.t 44))])
      .ret) .skip)))
  (.reg [o 32 (.mov (.t 5)), o 33 (.bin .add (.t 32) (ci 1)), o 5 (.mov (.t 33))])))
def pf_law23_AsmNames : PF := ⟨133, [.t 4],
  (.seq (.reg [o 4 (.mov (.c (.bool false)))])
  (.seq (.seq (.reg [o 14 (.mov (.t 0)), o 15 (.len .sl (.t 14)), o 16 (.bin .gtr (.t 15) (ci 200)), o 17 (.mov (.t 16)), gf 17 (some 18) (.mov (.t 1)), gf 17 (some 19) (.len .str (.t 18)), gf 17 (some 20) (.bin .lss (.t 19) (ci 1)), o 21 (.pick (.t 17) (.c (.bool true)) (.t 20)), o 22 (.mov (.t 21)), gf 22 (some 23) (.mov (.t 1)), gf 22 (some 24) (.len .str (.t 23)), gf 22 (some 25) (.bin .gtr (.t 24) (ci 4)), o 26 (.pick (.t 22) (.c (.bool true)) (.t 25))])
  (.cond (.t 26) (.seq (.reg [o 27 (.call (cf fn_law23_wakes) []), o 4 (.mov (.t 27))])
    .ret) .skip))
  (.seq (.seq (.reg [o 5 (.mov (ci 0))])
  (.block 0 (.loop l1_law23_AsmNames)))
  (.seq (.reg [o 46 (.mov (.t 0)), o 47 (.call (cf fn_asm_Print) [(.t 46)]), o 45 (.mov (.t 47)), o 48 (.ext (.t 45) 0), o 49 (.ext (.t 45) 1), o 6 (.mov (.t 48)), o 7 (.mov (.t 49))])
  (.seq (.seq (.reg [o 50 (.mov (.t 7)), o 51 (.ne .int (.t 50) (ci 0))])
  (.cond (.t 51) (.seq (.reg [o 52 (.call (cf fn_law23_wakes) []), o 4 (.mov (.t 52))])
    .ret) .skip))
  (.seq (.reg [o 8 (.mov (.c (S [])))])
  (.seq (.seq (.reg [o 9 (.mov (ci 0))])
  (.block 2 (.loop l2_law23_AsmNames)))
  (.seq (.reg [o 114 (.mov (.t 8)), o 115 (.call (cf fn_asm_Parse) [(.t 114)]), o 113 (.mov (.t 115)), o 116 (.ext (.t 113) 0), o 117 (.ext (.t 113) 1), o 118 (.ext (.t 113) 2), o 11 (.mov (.t 116)), o 12 (.mov (.t 117)), o 13 (.mov (.t 118))])
  (.seq (.reg [o 119 (.mov (.t 13)), o 120 (.eq .int (.t 119) (ci 0)), o 121 (.mov (.t 120)), gt 121 (some 122) (.mov (.t 12)), gt 121 (some 123) (.eq .int (.t 122) (ci 0)), o 124 (.pick (.t 121) (.t 123) (.c (.bool false))), o 125 (.mov (.t 124)), gt 125 (some 126) (.mov (.t 11)), gt 125 (some 127) (.mov (.t 0)), gt 125 (some 128) (.call (cf fn_law23_row) [(.t 126), (.t 127)]), o 129 (.pick (.t 125) (.t 128) (.c (.bool false))), o 130 (.mov (.t 129)), gt 130 (some 131) (.call (cf fn_law23_wakes) []), o 132 (.pick (.t 130) (.t 131) (.c (.bool false))), o 4 (.mov (.t 132))])
  .ret)))))))))⟩

def pf_law23_wakes : PF := ⟨71, [.t 0],
  (.seq (.reg [o 0 (.mov (.c (.bool false)))])
  (.seq (.reg [o 12 (.call (cf fn_asm_Parse) [(.c (S str_104803d2))]), o 11 (.mov (.t 12)), o 13 (.ext (.t 11) 0), o 14 (.ext (.t 11) 1), o 15 (.ext (.t 11) 2), o 1 (.mov (.t 13)), o 2 (.mov (.t 14)), o 3 (.mov (.t 15))])
  (.seq (.reg [o 17 (.mov (.t 1)), o 18 (.call (cf fn_asm_Print) [(.t 17)]), o 16 (.mov (.t 18)), o 19 (.ext (.t 16) 0), o 20 (.ext (.t 16) 1), o 4 (.mov (.t 19)), o 5 (.mov (.t 20))])
  (.seq (.reg [o 22 (.call (cf fn_asm_Parse) [(.c (S str_fff270d2))]), o 21 (.mov (.t 22)), o 23 (.ext (.t 21) 0), o 24 (.ext (.t 21) 1), o 25 (.ext (.t 21) 2), o 6 (.mov (.t 23)), o 7 (.mov (.t 24)), o 8 (.mov (.t 25))])
  (.seq (.reg [o 27 (.call (cf fn_asm_Word) [(.c (.int .u8 17))]), o 26 (.mov (.t 27)), o 28 (.ext (.t 26) 0), o 29 (.ext (.t 26) 1), o 9 (.mov (.t 28)), o 10 (.mov (.t 29))])
  (.seq (.reg [o 30 (.mov (.t 3)), o 31 (.eq .int (.t 30) (ci 0)), o 32 (.mov (.t 31)), gt 32 (some 33) (.mov (.t 2)), gt 32 (some 34) (.eq .int (.t 33) (ci 0)), o 35 (.pick (.t 32) (.t 34) (.c (.bool false))), o 36 (.mov (.t 35)), gt 36 (some 37) (.mov (.t 1)), gt 36 (some 38) (.len .sl (.t 37)), gt 36 (some 39) (.eq .int (.t 38) (ci 2)), o 40 (.pick (.t 36) (.t 39) (.c (.bool false))), o 41 (.mov (.t 40)), gt 41 (some 42) (.mov (.t 1)), gt 41 (some 43) (.iaddrs 5 (.t 42) (ci 0)), gt 41 (some 44) (.faddr 4 (.t 43)), gt 41 (some 45) (.load false 1 (.t 44)), gt 41 (some 46) (.eq .int (.t 45) (.c (.int .u16 3))), o 47 (.pick (.t 41) (.t 46) (.c (.bool false))), o 48 (.mov (.t 47)), gt 48 (some 49) (.mov (.t 5)), gt 48 (some 50) (.eq .int (.t 49) (ci 0)), o 51 (.pick (.t 48) (.t 50) (.c (.bool false))), o 52 (.mov (.t 51)), gt 52 (some 53) (.mov (.t 4)), gt 52 (some 54) (.eq .str (.t 53) (.c (S str_e13c1349))), o 55 (.pick (.t 52) (.t 54) (.c (.bool false))), o 56 (.mov (.t 55)), gt 56 (some 57) (.mov (.t 7)), gt 56 (some 58) (.eq .int (.t 57) (ci 2)), o 59 (.pick (.t 56) (.t 58) (.c (.bool false))), o 60 (.mov (.t 59)), gt 60 (some 61) (.mov (.t 8)), gt 60 (some 62) (.eq .int (.t 61) (ci 3)), o 63 (.pick (.t 60) (.t 62) (.c (.bool false))), o 64 (.mov (.t 63)), gt 64 (some 65) (.mov (.t 9)), gt 64 (some 66) (.eq .str (.t 65) (.c (S [110, 101, 119]))), o 67 (.pick (.t 64) (.t 66) (.c (.bool false))), o 68 (.mov (.t 67)), gt 68 (some 69) (.mov (.t 10)), o 70 (.pick (.t 68) (.t 69) (.c (.bool false))), o 0 (.mov (.t 70))])
  .ret))))))⟩

def pf_asm_Word : PF := ⟨16, [.t 2, .t 3],
  (.seq (.reg [o 2 (.mov (.c (S []))), o 3 (.mov (.c (.bool false)))])
  (.seq (.seq (.reg [o 4 (.mov (.t 0)), o 5 (.conv .i64 (.t 4)), o 6 (.bin .geq (.t 5) (ci 39)), o 7 (.mov (.t 6)), gf 7 (some 8) (.mov (.t 0)), gf 7 (some 9) (.iaddra 39 1 (.c (.glob g_asm_words)) (.t 8)), gf 7 (some 10) (.load false 1 (.t 9)), gf 7 (some 11) (.eq .str (.t 10) (.c (S []))), o 12 (.pick (.t 7) (.c (.bool true)) (.t 11))])
  (.cond (.t 12) (.seq (.reg [o 2 (.mov (.c (S []))), o 3 (.mov (.c (.bool false)))])
    .ret) .skip))
  (.seq (.reg [o 13 (.mov (.t 0)), o 14 (.iaddra 39 1 (.c (.glob g_asm_words)) (.t 13)), o 15 (.load false 1 (.t 14)), o 2 (.mov (.t 15)), o 3 (.mov (.c (.bool true)))])
  .ret)))⟩

def pf_ref23_Word : PF := ⟨28, [.t 2],
  (.seq (.reg [o 2 (.mov (.c (S [])))])
  (.seq (.reg [o 5 (.bslice [(S [])] 7 [(0, 1, (.c (S [104, 97, 108, 116]))), (1, 1, (.c (S [115, 101, 116]))), (2, 1, (.c (S [97, 100, 100]))), (3, 1, (.c (S [115, 117, 98]))), (4, 1, (.c (S [115, 104, 105, 102, 116]))), (5, 1, (.c (S [106, 117, 109, 112]))), (6, 1, (.c (S [105, 102])))]), o 3 (.mov (.t 5))])
  (.seq (.reg [o 6 (.bslice [(S [])] 22 [(0, 1, (.c (S [110, 101, 119]))), (1, 1, (.c (S [97, 108, 108, 111, 99]))), (2, 1, (.c (S [108, 111, 97, 100]))), (3, 1, (.c (S [115, 116, 111, 114, 101]))), (4, 1, (.c (S [114, 101, 115, 101, 116]))), (5, 1, (.c (S [100, 101, 108, 101, 116, 101]))), (6, 1, (.c (S [99, 117, 116]))), (7, 1, (.c (S [103, 114, 97, 102, 116]))), (8, 1, (.c (S [102, 114, 101, 101, 122, 101]))), (9, 1, (.c (S [115, 104, 97, 114, 101]))), (10, 1, (.c (S [100, 114, 111, 112]))), (11, 1, (.c (S [108, 101, 110, 100]))), (12, 1, (.c (S [114, 101, 116, 117, 114, 110]))), (13, 1, (.c (S [115, 101, 110, 100]))), (14, 1, (.c (S [114, 101, 99, 118]))), (15, 1, (.c (S [116, 114, 121, 114, 101, 99, 118]))), (16, 1, (.c (S [99, 108, 111, 115, 101]))), (17, 1, (.c (S [114, 101, 102]))), (18, 1, (.c (S [100, 101, 114, 101, 102]))), (19, 1, (.c (S [101, 120, 105, 116]))), (20, 1, (.c (S [107, 105, 108, 108]))), (21, 1, (.c (S [115, 112, 97, 119, 110])))]), o 4 (.mov (.t 6))])
  (.seq (.seq (.reg [o 7 (.mov (.t 0)), o 8 (.bin .geq (.t 7) (ci 0)), o 9 (.mov (.t 8)), gt 9 (some 10) (.mov (.t 0)), gt 9 (some 11) (.bin .lss (.t 10) (ci 7)), o 12 (.pick (.t 9) (.t 11) (.c (.bool false)))])
  (.cond (.t 12) (.seq (.reg [o 13 (.mov (.t 3)), o 14 (.mov (.t 0)), o 15 (.iaddrs 1 (.t 13) (.t 14)), o 16 (.load false 1 (.t 15)), o 2 (.mov (.t 16))])
    .ret) .skip))
  (.seq (.seq (.reg [o 17 (.mov (.t 0)), o 18 (.bin .geq (.t 17) (ci 17)), o 19 (.mov (.t 18)), gt 19 (some 20) (.mov (.t 0)), gt 19 (some 21) (.bin .lss (.t 20) (ci 39)), o 22 (.pick (.t 19) (.t 21) (.c (.bool false)))])
  (.cond (.t 22) (.seq (.reg [o 23 (.mov (.t 4)), o 24 (.mov (.t 0)), o 25 (.bin .sub (.t 24) (ci 17)), o 26 (.iaddrs 1 (.t 23) (.t 25)), o 27 (.load false 1 (.t 26)), o 2 (.mov (.t 27))])
    .ret) .skip))
  (.seq (.reg [o 2 (.mov (.c (S [])))])
  .ret))))))⟩

def l2_asm_Print : PC :=
  (.seq (.reg [o 55 (.bin .lss (.t 54) (.t 53))])
  (.seq (.cond (.t 55) .skip (.exit 2))
  (.seq (.block 3 (.seq (.reg [o 56 (.iaddrs 1 (.t 52) (.t 54)), o 57 (.load false 1 (.t 56)), o 10 (.mov (.t 57))])
    (.reg [o 58 (.mov (.t 10)), o 59 (.conv .i64 (.t 58)), o 60 (.call (cf fn_strconv_Itoa) [(.t 59)]), o 61 (.bin .add (.c (S [32, 114])) (.t 60)), o 62 (.call (cf fn_Pstrings_Builder_WriteString) [(.t 5), (.t 61)])])))
  (.reg [o 63 (.bin .add (.t 54) (ci 1)), o 54 (.mov (.t 63))]))))
def l1_asm_Print : PC :=
  (.seq (.reg [o 17 (.bin .lss (.t 16) (.t 15))])
  (.seq (.cond (.t 17) .skip (.exit 0))
  (.seq (.block 1 (.seq (.reg [o 18 (.mov (.t 16)), o 19 (.iaddrs 5 (.t 14) (.t 16)), o 20 (.load true 5 (.t 19)), o 6 (.alloc [(.int .i64 0)] none), o 7 (.alloc [(.int .u8 0), (.int .u8 0), (.int .u8 0), (.int .u8 0), (.int .u16 0)] none), u (.store 1 (.t 6) (.t 18)), u (.store 5 (.t 7) (.t 20))])
    (.seq (.seq (.reg [o 21 (.mov (.t 0)), o 22 (.mkf (.func fn_asm_Print_2) [] [(.t 6)]), o 23 (.call (cf fn_slices_ContainsFunc_code_Instr_code_Instr) [(.t 21), (.t 22)])])
    (.cond (.t 23) (.reg [o 24 (.mov (.t 4)), o 25 (.load false 1 (.t 6)), o 26 (.call (.t 24) [(.t 25)]), o 27 (.bin .add (.t 26) (.c (S [58, 10]))), o 28 (.call (cf fn_Pstrings_Builder_WriteString) [(.t 5), (.t 27)])]) .skip))
    (.seq (.reg [o 29 (.faddr 4 (.t 7)), o 30 (.load false 1 (.t 29)), o 31 (.conv .i64 (.t 30)), o 32 (.call (cf fn_strconv_Itoa) [(.t 31)]), o 8 (.mov (.t 32))])
    (.seq (.seq (.reg [o 33 (.faddr 0 (.t 7)), o 34 (.load false 1 (.t 33)), o 35 (.call (cf fn_asm_goes) [(.t 34)])])
    (.cond (.t 35) (.reg [o 36 (.mov (.t 4)), o 37 (.faddr 4 (.t 7)), o 38 (.load false 1 (.t 37)), o 39 (.conv .i64 (.t 38)), o 40 (.call (.t 36) [(.t 39)]), o 8 (.mov (.t 40))]) .skip))
    (.seq (.reg [o 41 (.faddr 0 (.t 7)), o 42 (.load false 1 (.t 41)), o 43 (.iaddra 39 1 (.c (.glob g_asm_words)) (.t 42)), o 44 (.load false 1 (.t 43)), o 45 (.call (cf fn_Pstrings_Builder_WriteString) [(.t 5), (.t 44)])])
    (.seq (.seq (.reg [o 46 (.faddr 1 (.t 7)), o 47 (.load false 1 (.t 46)), o 48 (.faddr 2 (.t 7)), o 49 (.load false 1 (.t 48)), o 50 (.faddr 3 (.t 7)), o 51 (.load false 1 (.t 50)), o 52 (.bslice [(.int .u8 0)] 3 [(0, 1, (.t 47)), (1, 1, (.t 49)), (2, 1, (.t 51))]), o 53 (.len .sl (.t 52)), o 54 (.mov (ci 0))])
    (.block 2 (.loop l2_asm_Print)))
    (.reg [o 64 (.mov (.t 8)), o 65 (.bin .add (.c (S [32])) (.t 64)), o 66 (.bin .add (.t 65) (.c (S [10]))), o 67 (.call (cf fn_Pstrings_Builder_WriteString) [(.t 5), (.t 66)])]))))))))
  (.reg [o 68 (.bin .add (.t 16) (ci 1)), o 16 (.mov (.t 68))]))))
def pf_asm_Print : PF := ⟨70, [.t 2, .t 3],
  (.seq (.reg [o 2 (.mov (.c (S []))), o 3 (.mov (ci 0))])
  (.seq (.seq (.reg [o 11 (.mov (.t 0)), o 12 (.call (cf fn_code_May) [(.t 11)]), o 13 (.un .not (.t 12))])
  (.cond (.t 13) (.seq (.reg [o 2 (.mov (.c (S []))), o 3 (.mov (ci 3))])
    .ret) .skip))
  (.seq (.reg [o 4 (.mov (cf fn_asm_Print_1))])
  (.seq (.reg [o 5 (.alloc [.nilp, .nils] (some ty_strings_Builder))])
  (.seq (.seq (.reg [o 14 (.mov (.t 0)), o 15 (.len .sl (.t 14)), o 16 (.mov (ci 0))])
  (.block 0 (.loop l1_asm_Print)))
  (.seq (.reg [o 69 (.call (cf fn_Pstrings_Builder_String) [(.t 5)]), o 2 (.mov (.t 69)), o 3 (.mov (ci 0))])
  .ret))))))⟩

def l1_law13_Of : PC :=
  (.seq (.seq (.reg [o 6 (.mov (.t 4)), o 7 (.mov (.t 0)), o 8 (.len .sl (.t 7)), o 9 (.bin .lss (.t 6) (.t 8))])
  (.cond (.t 9) .skip (.exit 0)))
  (.seq (.block 1 (.seq (.reg [o 12 (.mov (.t 0)), o 13 (.mov (.t 4)), o 14 (.iaddrs 5 (.t 12) (.t 13)), o 15 (.load true 5 (.t 14)), o 5 (.alloc [(.int .u8 0), (.int .u8 0), (.int .u8 0), (.int .u8 0), (.int .u16 0)] none), u (.store 5 (.t 5) (.t 15))])
    (.reg [o 16 (.mov (.t 3)), o 17 (.faddr 0 (.t 5)), o 18 (.load false 1 (.t 17)), o 19 (.conv .i64 (.t 18)), o 20 (.faddr 1 (.t 5)), o 21 (.load false 1 (.t 20)), o 22 (.conv .i64 (.t 21)), o 23 (.faddr 2 (.t 5)), o 24 (.load false 1 (.t 23)), o 25 (.conv .i64 (.t 24)), o 26 (.faddr 3 (.t 5)), o 27 (.load false 1 (.t 26)), o 28 (.conv .i64 (.t 27)), o 29 (.faddr 4 (.t 5)), o 30 (.load false 1 (.t 29)), o 31 (.conv .i64 (.t 30)), o 32 (.build [(.int .i64 0), (.int .i64 0), (.int .i64 0), (.int .i64 0), (.int .i64 0)] [(0, 1, (.t 19)), (1, 1, (.t 22)), (2, 1, (.t 25)), (3, 1, (.t 28)), (4, 1, (.t 31))]), o 33 (.bslice [(.int .i64 0), (.int .i64 0), (.int .i64 0), (.int .i64 0), (.int .i64 0)] 1 [(0, 5, (.t 32))]), o 34 (.append ty_ref13_Instr 5 40 (.t 16) (.t 33)), o 3 (.mov (.t 34))])))
  (.reg [o 10 (.mov (.t 4)), o 11 (.bin .add (.t 10) (ci 1)), o 4 (.mov (.t 11))])))
def pf_law13_Of : PF := ⟨36, [.t 2],
  (.seq (.reg [o 2 (.mov (.c .nils))])
  (.seq (.reg [o 3 (.mov (.c .nils))])
  (.seq (.seq (.reg [o 4 (.mov (ci 0))])
  (.block 0 (.loop l1_law13_Of)))
  (.seq (.reg [o 35 (.mov (.t 3)), o 2 (.mov (.t 35))])
  .ret))))⟩

def l1_ref13_May : PC :=
  (.seq (.seq (.reg [o 8 (.mov (.t 3)), o 9 (.mov (.t 0)), o 10 (.len .sl (.t 9)), o 11 (.bin .lss (.t 8) (.t 10))])
  (.cond (.t 11) .skip (.exit 0)))
  (.seq (.block 1 (.seq (.reg [o 14 (.mov (.t 0)), o 15 (.mov (.t 3)), o 16 (.iaddrs 5 (.t 14) (.t 15)), o 17 (.load true 5 (.t 16)), o 4 (.alloc [(.int .i64 0), (.int .i64 0), (.int .i64 0), (.int .i64 0), (.int .i64 0)] none), u (.store 5 (.t 4) (.t 17))])
    (.seq (.reg [o 18 (.faddr 0 (.t 4)), o 19 (.load false 1 (.t 18)), o 20 (.bin .gtr (.t 19) (ci 6)), o 21 (.mov (.t 20)), gt 21 (some 22) (.faddr 0 (.t 4)), gt 21 (some 23) (.load false 1 (.t 22)), gt 21 (some 24) (.bin .lss (.t 23) (ci 17)), o 25 (.pick (.t 21) (.t 24) (.c (.bool false))), o 26 (.mov (.t 25)), gf 26 (some 27) (.faddr 0 (.t 4)), gf 26 (some 28) (.load false 1 (.t 27)), gf 26 (some 29) (.bin .gtr (.t 28) (ci 38)), o 30 (.pick (.t 26) (.c (.bool true)) (.t 29)), o 31 (.mov (.t 30)), gf 31 (some 32) (.faddr 1 (.t 4)), gf 31 (some 33) (.load false 1 (.t 32)), gf 31 (some 34) (.bin .gtr (.t 33) (ci 7)), o 35 (.pick (.t 31) (.c (.bool true)) (.t 34)), o 36 (.mov (.t 35)), gf 36 (some 37) (.faddr 2 (.t 4)), gf 36 (some 38) (.load false 1 (.t 37)), gf 36 (some 39) (.bin .gtr (.t 38) (ci 7)), o 40 (.pick (.t 36) (.c (.bool true)) (.t 39)), o 41 (.mov (.t 40)), gf 41 (some 42) (.faddr 3 (.t 4)), gf 41 (some 43) (.load false 1 (.t 42)), gf 41 (some 44) (.bin .gtr (.t 43) (ci 7)), o 45 (.pick (.t 41) (.c (.bool true)) (.t 44)), o 46 (.mov (.t 45)), gf 46 (some 47) (.faddr 0 (.t 4)), gf 46 (some 48) (.load false 1 (.t 47)), gf 46 (some 49) (.eq .int (.t 48) (ci 5)), gf 46 (some 50) (.mov (.t 49)), gf 50 (some 51) (.faddr 0 (.t 4)), gf 50 (some 52) (.load false 1 (.t 51)), gf 50 (some 53) (.eq .int (.t 52) (ci 6)), gf 46 (some 54) (.pick (.t 50) (.c (.bool true)) (.t 53)), gf 46 (some 55) (.mov (.t 54)), gt 55 (some 56) (.faddr 4 (.t 4)), gt 55 (some 57) (.load false 1 (.t 56)), gt 55 (some 58) (.mov (.t 0)), gt 55 (some 59) (.len .sl (.t 58)), gt 55 (some 60) (.bin .geq (.t 57) (.t 59)), gf 46 (some 61) (.pick (.t 55) (.t 60) (.c (.bool false))), o 62 (.pick (.t 46) (.c (.bool true)) (.t 61))])
    (.cond (.t 62) (.seq (.reg [o 2 (.mov (.c (.bool false)))])
      .ret) .skip))))
  (.reg [o 12 (.mov (.t 3)), o 13 (.bin .add (.t 12) (ci 1)), o 3 (.mov (.t 13))])))
def pf_ref13_May : PF := ⟨63, [.t 2],
  (.seq (.reg [o 2 (.mov (.c (.bool false)))])
  (.seq (.seq (.reg [o 5 (.mov (.t 0)), o 6 (.len .sl (.t 5)), o 7 (.bin .gtr (.t 6) (ci 64))])
  (.cond (.t 7) (.seq (.reg [o 2 (.mov (.c (.bool false)))])
    .ret) .skip))
  (.seq (.seq (.reg [o 3 (.mov (ci 0))])
  (.block 0 (.loop l1_ref13_May)))
  (.seq (.reg [o 2 (.mov (.c (.bool true)))])
  .ret))))⟩

def l2_ref23_Print : PC :=
  (.seq (.seq (.reg [o 14 (.mov (.t 6)), o 15 (.mov (.t 0)), o 16 (.len .sl (.t 15)), o 17 (.bin .lss (.t 14) (.t 16))])
  (.cond (.t 17) .skip (.exit 2)))
  (.seq (.block 3 (.reg [o 20 (.mov (.t 5)), o 21 (.mov (.t 20)), gf 21 (some 22) (.mov (.t 0)), gf 21 (some 23) (.mov (.t 6)), gf 21 (some 24) (.iaddrs 5 (.t 22) (.t 23)), gf 21 (some 25) (.faddr 0 (.t 24)), gf 21 (some 26) (.load false 1 (.t 25)), gf 21 (some 27) (.eq .int (.t 26) (ci 5)), gf 21 (some 28) (.mov (.t 27)), gf 28 (some 29) (.mov (.t 0)), gf 28 (some 30) (.mov (.t 6)), gf 28 (some 31) (.iaddrs 5 (.t 29) (.t 30)), gf 28 (some 32) (.faddr 0 (.t 31)), gf 28 (some 33) (.load false 1 (.t 32)), gf 28 (some 34) (.eq .int (.t 33) (ci 6)), gf 21 (some 35) (.pick (.t 28) (.c (.bool true)) (.t 34)), gf 21 (some 36) (.mov (.t 35)), gt 36 (some 37) (.mov (.t 0)), gt 36 (some 38) (.mov (.t 6)), gt 36 (some 39) (.iaddrs 5 (.t 37) (.t 38)), gt 36 (some 40) (.faddr 4 (.t 39)), gt 36 (some 41) (.load false 1 (.t 40)), gt 36 (some 42) (.mov (.t 4)), gt 36 (some 43) (.eq .int (.t 41) (.t 42)), gf 21 (some 44) (.pick (.t 36) (.t 43) (.c (.bool false))), o 45 (.pick (.t 21) (.c (.bool true)) (.t 44)), o 5 (.mov (.t 45))]))
  (.reg [o 18 (.mov (.t 6)), o 19 (.bin .add (.t 18) (ci 1)), o 6 (.mov (.t 19))])))
def l1_ref23_Print : PC :=
  (.seq (.seq (.reg [o 8 (.mov (.t 4)), o 9 (.mov (.t 0)), o 10 (.len .sl (.t 9)), o 11 (.bin .lss (.t 8) (.t 10))])
  (.cond (.t 11) .skip (.exit 0)))
  (.seq (.block 1 (.seq (.reg [o 5 (.mov (.c (.bool false)))])
    (.seq (.seq (.reg [o 6 (.mov (ci 0))])
    (.block 2 (.loop l2_ref23_Print)))
    (.seq (.seq (.reg [o 46 (.mov (.t 5))])
    (.cond (.t 46) (.reg [o 47 (.mov (.t 3)), o 48 (.bin .add (.t 47) (.c (S [108]))), o 49 (.mov (.t 4)), o 50 (.call (cf fn_ref23_digits) [(.t 49)]), o 51 (.bin .add (.t 48) (.t 50)), o 52 (.bin .add (.t 51) (.c (S [58, 10]))), o 3 (.mov (.t 52))]) .skip))
    (.seq (.reg [o 53 (.mov (.t 0)), o 54 (.mov (.t 4)), o 55 (.iaddrs 5 (.t 53) (.t 54)), o 56 (.load true 5 (.t 55)), o 7 (.alloc [(.int .i64 0), (.int .i64 0), (.int .i64 0), (.int .i64 0), (.int .i64 0)] none), u (.store 5 (.t 7) (.t 56))])
    (.seq (.dreg [(o 57 (.mov (.t 3)), []), (o 58 (.faddr 0 (.t 7)), []), (o 59 (.load false 1 (.t 58)), []), (o 60 (.call (cf fn_ref23_Word) [(.t 59)]), []), (o 61 (.bin .add (.t 57) (.t 60)), []), (o 62 (.bin .add (.t 61) (.c (S [32, 114]))), []), (o 63 (.faddr 1 (.t 7)), []), (o 64 (.load false 1 (.t 63)), [2, 3]), (o 65 (.call (cf fn_ref23_digits) [(.t 64)]), []), (o 66 (.bin .add (.t 62) (.t 65)), []), (o 67 (.bin .add (.t 66) (.c (S [32, 114]))), []), (o 68 (.faddr 2 (.t 7)), []), (o 69 (.load false 1 (.t 68)), [2, 3, 7, 8]), (o 70 (.call (cf fn_ref23_digits) [(.t 69)]), []), (o 71 (.bin .add (.t 67) (.t 70)), []), (o 72 (.bin .add (.t 71) (.c (S [32, 114]))), []), (o 73 (.faddr 3 (.t 7)), []), (o 74 (.load false 1 (.t 73)), [2, 3, 7, 8, 12, 13]), (o 75 (.call (cf fn_ref23_digits) [(.t 74)]), []), (o 76 (.bin .add (.t 72) (.t 75)), []), (o 77 (.bin .add (.t 76) (.c (S [32]))), []), (o 3 (.mov (.t 77)), [])])
    (.seq (.seq (.reg [o 78 (.faddr 0 (.t 7)), o 79 (.load false 1 (.t 78)), o 80 (.eq .int (.t 79) (ci 5)), o 81 (.mov (.t 80)), gf 81 (some 82) (.faddr 0 (.t 7)), gf 81 (some 83) (.load false 1 (.t 82)), gf 81 (some 84) (.eq .int (.t 83) (ci 6)), o 85 (.pick (.t 81) (.c (.bool true)) (.t 84))])
    (.cond (.t 85) (.reg [o 86 (.mov (.t 3)), o 87 (.bin .add (.t 86) (.c (S [108]))), o 3 (.mov (.t 87))]) .skip))
    (.reg [o 88 (.mov (.t 3)), o 89 (.faddr 4 (.t 7)), o 90 (.load false 1 (.t 89)), o 91 (.call (cf fn_ref23_digits) [(.t 90)]), o 92 (.bin .add (.t 88) (.t 91)), o 93 (.bin .add (.t 92) (.c (S [10]))), o 3 (.mov (.t 93))]))))))))
  (.reg [o 12 (.mov (.t 4)), o 13 (.bin .add (.t 12) (ci 1)), o 4 (.mov (.t 13))])))
def pf_ref23_Print : PF := ⟨95, [.t 2],
  (.seq (.reg [o 2 (.mov (.c (S [])))])
  (.seq (.reg [o 3 (.mov (.c (S [])))])
  (.seq (.seq (.reg [o 4 (.mov (ci 0))])
  (.block 0 (.loop l1_ref23_Print)))
  (.seq (.reg [o 94 (.mov (.t 3)), o 2 (.mov (.t 94))])
  .ret))))⟩

def pf_code_May : PF := ⟨12, [.t 2],
  (.seq (.reg [o 1 (.box (.t 0)), o 2 (.mov (.c (.bool false)))])
  (.seq (.reg [o 3 (.load false 1 (.t 1)), o 4 (.len .sl (.t 3)), o 5 (.bin .leq (.t 4) (ci 64)), o 6 (.mov (.t 5)), gt 6 (some 7) (.load false 1 (.t 1)), gt 6 (some 8) (.mkf (.func fn_code_May_1) [] [(.t 1)]), gt 6 (some 9) (.call (cf fn_slices_ContainsFunc_code_Instr_code_Instr) [(.t 7), (.t 8)]), gt 6 (some 10) (.un .not (.t 9)), o 11 (.pick (.t 6) (.t 10) (.c (.bool false))), o 2 (.mov (.t 11))])
  .ret))⟩

def l2_asm_Parse : PC :=
  (.seq (.reg [o 39 (.bin .lss (.t 38) (.t 37))])
  (.seq (.cond (.t 39) .skip (.exit 2))
  (.seq (.block 3 (.seq (.reg [o 40 (.iaddrs 3 (.t 36) (.t 38)), o 41 (.load true 3 (.t 40)), o 10 (.alloc [(S []), (.int .i64 0), (.int .i64 0)] none), u (.store 3 (.t 10) (.t 41))])
    (.seq (.dreg [(o 43 (.mov (.t 5)), []), (o 44 (.nilck (.t 43)), []), (o 45 (.faddr 1 (.t 44)), []), (o 46 (.load false 1 (.t 45)), []), (o 47 (.faddr 0 (.t 10)), []), (o 48 (.load false 1 (.t 47)), [3]), (o 49 (.lookup .str (.int .i64 0) (.t 46) (.t 48) true), []), (o 42 (.mov (.t 49)), []), (o 50 (.ext (.t 42) 0), []), (o 51 (.ext (.t 42) 1), []), (o 11 (.mov (.t 50)), []), (o 12 (.mov (.t 51)), [])])
    (.block 4 (.seq (.reg [o 53 (.mov (.t 6)), o 54 (.eq .int (.t 53) (ci 0)), o 55 (.mov (.t 54)), gt 55 (some 56) (.mov (.t 12)), gt 55 (some 57) (.un .not (.t 56)), gt 55 (some 58) (.mov (.t 57)), gf 58 (some 59) (.mov (.t 11)), gf 58 (some 60) (.mov (.t 5)), gf 58 (some 61) (.nilck (.t 60)), gf 58 (some 62) (.faddr 0 (.t 61)), gf 58 (some 63) (.load false 1 (.t 62)), gf 58 (some 64) (.len .sl (.t 63)), gf 58 (some 65) (.bin .geq (.t 59) (.t 64)), gt 55 (some 66) (.pick (.t 58) (.c (.bool true)) (.t 65)), o 67 (.pick (.t 55) (.t 66) (.c (.bool false))), o 52 (.mov (.t 67))])
      (.cond (.t 52) (.reg [o 68 (.faddr 1 (.t 10)), o 69 (.load false 1 (.t 68)), o 6 (.mov (.t 69))]) (.seq (.reg [o 71 (.mov (.t 6)), o 72 (.eq .int (.t 71) (ci 0)), o 70 (.mov (.t 72))])
        (.cond (.t 70) (.dreg [(o 73 (.mov (.t 5)), []), (o 74 (.nilck (.t 73)), []), (o 75 (.faddr 0 (.t 74)), []), (o 76 (.load false 1 (.t 75)), []), (o 77 (.faddr 2 (.t 10)), []), (o 78 (.load false 1 (.t 77)), [3]), (o 79 (.mov (.t 11)), []), (o 80 (.conv .u16 (.t 79)), []), (o 81 (.iaddrs 5 (.t 76) (.t 78)), []), (o 82 (.faddr 4 (.t 81)), []), (u (.store 1 (.t 82) (.t 80)), [])]) .skip))))))))
  (.reg [o 83 (.bin .add (.t 38) (ci 1)), o 38 (.mov (.t 83))]))))
def l1_asm_Parse : PC :=
  (.seq (.reg [o 20 (.bin .lss (.t 19) (.t 18))])
  (.seq (.cond (.t 20) .skip (.exit 0))
  (.seq (.block 1 (.seq (.reg [o 21 (.mov (.t 19)), o 22 (.iaddrs 1 (.t 17) (.t 19)), o 23 (.load false 1 (.t 22)), o 7 (.mov (.t 21)), o 8 (.mov (.t 23))])
    (.seq (.reg [o 24 (.mov (.t 5)), o 25 (.mov (.t 8)), o 26 (.mov (.t 7)), o 27 (.bin .add (.t 26) (ci 1)), o 28 (.call (cf fn_Pasm_parser_line) [(.t 24), (.t 25), (.t 27)]), o 29 (.un .not (.t 28))])
    (.cond (.t 29) (.seq (.reg [o 30 (.mov (.t 7)), o 31 (.bin .add (.t 30) (ci 1)), o 6 (.mov (.t 31))])
      (.exit 0)) .skip))))
  (.reg [o 32 (.bin .add (.t 19) (ci 1)), o 19 (.mov (.t 32))]))))
def pf_asm_Parse : PF := ⟨99, [.t 2, .t 3, .t 4],
  (.seq (.reg [o 2 (.mov (.c .nils)), o 3 (.mov (ci 0)), o 4 (.mov (ci 0))])
  (.seq (.reg [o 13 .mkmap, o 14 (.build [.nils, .nilm, .nils] [(1, 1, (.t 13))]), o 15 (.box (.t 14)), o 5 (.mov (.t 15))])
  (.seq (.reg [o 6 (.mov (ci 0))])
  (.seq (.seq (.reg [o 16 (.mov (.t 0)), o 17 (.call (cf fn_strings_Split) [(.t 16), (.c (S [10]))]), o 18 (.len .sl (.t 17)), o 19 (.mov (ci 0))])
  (.block 0 (.loop l1_asm_Parse)))
  (.seq (.seq (.reg [o 33 (.mov (.t 5)), o 34 (.nilck (.t 33)), o 35 (.faddr 2 (.t 34)), o 36 (.load false 1 (.t 35)), o 37 (.len .sl (.t 36)), o 38 (.mov (ci 0))])
  (.block 2 (.loop l2_asm_Parse)))
  (.seq (.block 5 (.seq (.reg [o 85 (.mov (.t 6)), o 86 (.bin .gtr (.t 85) (ci 0)), o 84 (.mov (.t 86))])
    (.cond (.t 84) (.seq (.reg [o 87 (.mov (.t 6)), o 2 (.mov (.c .nils)), o 3 (.mov (.t 87)), o 4 (.mov (ci 3))])
      .ret) (.seq (.reg [o 89 (.mov (.t 5)), o 90 (.nilck (.t 89)), o 91 (.faddr 0 (.t 90)), o 92 (.load false 1 (.t 91)), o 93 (.len .sl (.t 92)), o 94 (.bin .gtr (.t 93) (ci 64)), o 88 (.mov (.t 94))])
      (.cond (.t 88) (.seq (.reg [o 2 (.mov (.c .nils)), o 3 (.mov (ci 0)), o 4 (.mov (ci 8))])
        .ret) .skip)))))
  (.seq (.reg [o 95 (.mov (.t 5)), o 96 (.nilck (.t 95)), o 97 (.faddr 0 (.t 96)), o 98 (.load false 1 (.t 97)), o 2 (.mov (.t 98)), o 3 (.mov (ci 0)), o 4 (.mov (ci 0))])
  .ret)))))))⟩

def l1_law23_row : PC :=
  (.seq (.seq (.reg [o 11 (.mov (.t 5)), o 12 (.mov (.t 0)), o 13 (.len .sl (.t 12)), o 14 (.bin .lss (.t 11) (.t 13))])
  (.cond (.t 14) .skip (.exit 0)))
  (.seq (.block 1 (.seq (.dreg [(o 17 (.mov (.t 0)), []), (o 18 (.mov (.t 5)), []), (o 19 (.iaddrs 5 (.t 17) (.t 18)), []), (o 20 (.load true 5 (.t 19)), []), (o 21 (.mov (.t 1)), []), (o 22 (.mov (.t 5)), []), (o 23 (.iaddrs 5 (.t 21) (.t 22)), []), (o 24 (.load true 5 (.t 23)), [3]), (o 25 (.ne (.agg [.int, .int, .int, .int, .int]) (.t 20) (.t 24)), [])])
    (.cond (.t 25) (.seq (.reg [o 4 (.mov (.c (.bool false)))])
      .ret) .skip)))
  (.reg [o 15 (.mov (.t 5)), o 16 (.bin .add (.t 15) (ci 1)), o 5 (.mov (.t 16))])))
def pf_law23_row : PF := ⟨26, [.t 4],
  (.seq (.reg [o 4 (.mov (.c (.bool false)))])
  (.seq (.seq (.reg [o 6 (.mov (.t 0)), o 7 (.len .sl (.t 6)), o 8 (.mov (.t 1)), o 9 (.len .sl (.t 8)), o 10 (.ne .int (.t 7) (.t 9))])
  (.cond (.t 10) (.seq (.reg [o 4 (.mov (.c (.bool false)))])
    .ret) .skip))
  (.seq (.seq (.reg [o 5 (.mov (ci 0))])
  (.block 0 (.loop l1_law23_row)))
  (.seq (.reg [o 4 (.mov (.c (.bool true)))])
  .ret))))⟩

def l1_law23_split : PC :=
  (.seq (.seq (.reg [o 6 (.mov (.t 5)), o 7 (.mov (.t 0)), o 8 (.len .str (.t 7)), o 9 (.bin .leq (.t 6) (.t 8))])
  (.cond (.t 9) .skip (.exit 0)))
  (.seq (.block 1 (.seq (.reg [o 12 (.mov (.t 5)), o 13 (.mov (.t 0)), o 14 (.len .str (.t 13)), o 15 (.eq .int (.t 12) (.t 14)), o 16 (.mov (.t 15)), gf 16 (some 17) (.mov (.t 0)), gf 16 (some 18) (.mov (.t 5)), gf 16 (some 19) (.idxs (.t 17) (.t 18)), gf 16 (some 20) (.eq .int (.t 19) (.c (.int .u8 10))), o 21 (.pick (.t 16) (.c (.bool true)) (.t 20))])
    (.cond (.t 21) (.seq (.reg [o 22 (.mov (.t 3)), o 23 (.mov (.t 0)), o 24 (.mov (.t 4)), o 25 (.mov (.t 5)), o 26 (.slstr (.t 23) (some (.t 24)) (some (.t 25))), o 27 (.bslice [(S [])] 1 [(0, 1, (.t 26))]), o 28 (.append ty_string 1 16 (.t 22) (.t 27)), o 3 (.mov (.t 28))])
      (.reg [o 29 (.mov (.t 5)), o 30 (.bin .add (.t 29) (ci 1)), o 4 (.mov (.t 30))])) .skip)))
  (.reg [o 10 (.mov (.t 5)), o 11 (.bin .add (.t 10) (ci 1)), o 5 (.mov (.t 11))])))
def pf_law23_split : PF := ⟨32, [.t 2],
  (.seq (.reg [o 2 (.mov (.c .nils))])
  (.seq (.reg [o 3 (.mov (.c .nils))])
  (.seq (.reg [o 4 (.mov (ci 0))])
  (.seq (.seq (.reg [o 5 (.mov (ci 0))])
  (.block 0 (.loop l1_law23_split)))
  (.seq (.reg [o 31 (.mov (.t 3)), o 2 (.mov (.t 31))])
  .ret)))))⟩

def pf_asm_Print_1 : PF := ⟨6, [.t 2],
  (.seq (.reg [o 2 (.mov (.c (S [])))])
  (.seq (.reg [o 3 (.mov (.t 0)), o 4 (.call (cf fn_strconv_Itoa) [(.t 3)]), o 5 (.bin .add (.c (S [108])) (.t 4)), o 2 (.mov (.t 5))])
  .ret))⟩

def pf_strconv_Itoa : PF := ⟨5, [.t 2],
  (.seq (.reg [o 2 (.mov (.c (S [])))])
  (.seq (.reg [o 3 (.mov (.t 0)), o 4 (.call (cf fn_istrconv_Itoa) [(.t 3)]), o 2 (.mov (.t 4))])
  .ret))⟩

def pf_slices_ContainsFunc_code_Instr_code_Instr : PF := ⟨9, [.t 4],
  (.seq (.reg [o 4 (.mov (.c (.bool false)))])
  (.seq (.reg [o 5 (.mov (.t 0)), o 6 (.mov (.t 1)), o 7 (.call (cf fn_slices_IndexFunc_code_Instr_code_Instr) [(.t 5), (.t 6)]), o 8 (.bin .geq (.t 7) (ci 0)), o 4 (.mov (.t 8))])
  .ret))⟩

def pf_asm_Print_2 : PF := ⟨14, [.t 3],
  (.seq (.reg [o 2 (.box (.t 0)), o 3 (.mov (.c (.bool false)))])
  (.seq (.reg [o 4 (.faddr 0 (.t 2)), o 5 (.load false 1 (.t 4)), o 6 (.call (cf fn_asm_goes) [(.t 5)]), o 7 (.mov (.t 6)), gt 7 (some 8) (.faddr 4 (.t 2)), gt 7 (some 9) (.load false 1 (.t 8)), gt 7 (some 10) (.conv .i64 (.t 9)), gt 7 (some 11) (.load false 1 (.t 1)), gt 7 (some 12) (.eq .int (.t 10) (.t 11)), o 13 (.pick (.t 7) (.t 12) (.c (.bool false))), o 3 (.mov (.t 13))])
  .ret))⟩

def pf_asm_goes : PF := ⟨9, [.t 2],
  (.seq (.reg [o 2 (.mov (.c (.bool false)))])
  (.seq (.reg [o 3 (.mov (.t 0)), o 4 (.eq .int (.t 3) (.c (.int .u8 5))), o 5 (.mov (.t 4)), gf 5 (some 6) (.mov (.t 0)), gf 5 (some 7) (.eq .int (.t 6) (.c (.int .u8 6))), o 8 (.pick (.t 5) (.c (.bool true)) (.t 7)), o 2 (.mov (.t 8))])
  .ret))⟩

def pf_Pstrings_Builder_WriteString : PF := ⟨19, [.t 4, .t 5],
  (.seq (.reg [o 4 (.mov (ci 0)), o 5 (.mov (.c .nili))])
  (.seq (.reg [o 6 (.mov (.t 0)), o 7 (.call (cf fn_Pstrings_Builder_copyCheck) [(.t 6)])])
  (.seq (.reg [o 8 (.mov (.t 0)), o 9 (.mov (.t 0)), o 10 (.nilck (.t 9)), o 11 (.faddr 1 (.t 10)), o 12 (.load false 1 (.t 11)), o 13 (.mov (.t 1)), o 14 (.appends ty_uint8 (.t 12) (.t 13)), o 15 (.nilck (.t 8)), o 16 (.faddr 1 (.t 15)), u (.store 1 (.t 16) (.t 14))])
  (.seq (.reg [o 17 (.mov (.t 1)), o 18 (.len .str (.t 17)), o 4 (.mov (.t 18)), o 5 (.mov (.c .nili))])
  .ret))))⟩

def pf_Pstrings_Builder_String : PF := ⟨14, [.t 2],
  (.seq (.reg [o 2 (.mov (.c (S [])))])
  (.seq (.dreg [(o 3 (.mov (.t 0)), []), (o 4 (.nilck (.t 3)), []), (o 5 (.faddr 1 (.t 4)), []), (o 6 (.load false 1 (.t 5)), []), (o 7 (.usd (.t 6)), []), (o 8 (.mov (.t 0)), []), (o 9 (.nilck (.t 8)), []), (o 10 (.faddr 1 (.t 9)), []), (o 11 (.load false 1 (.t 10)), [3]), (o 12 (.len .sl (.t 11)), [3]), (o 13 (.ustr ty_uint8 (.t 7) (.t 12)), []), (o 2 (.mov (.t 13)), [])])
  .ret))⟩

def pf_ref23_digits : PF := ⟨16, [.t 2],
  (.seq (.reg [o 2 (.mov (.c (S [])))])
  (.seq (.seq (.reg [o 3 (.mov (.t 0)), o 4 (.bin .lss (.t 3) (ci 10))])
  (.cond (.t 4) (.seq (.reg [o 5 (.mov (.t 0)), o 6 (.mov (.t 0)), o 7 (.bin .add (.t 6) (ci 1)), o 8 (.slstr (.c (S [48, 49, 50, 51, 52, 53, 54, 55, 56, 57])) (some (.t 5)) (some (.t 7))), o 2 (.mov (.t 8))])
    .ret) .skip))
  (.seq (.reg [o 9 (.mov (.t 0)), o 10 (.bin .quo (.t 9) (ci 10)), o 11 (.call (cf fn_ref23_digits) [(.t 10)]), o 12 (.mov (.t 0)), o 13 (.bin .rem (.t 12) (ci 10)), o 14 (.call (cf fn_ref23_digits) [(.t 13)]), o 15 (.bin .add (.t 11) (.t 14)), o 2 (.mov (.t 15))])
  .ret)))⟩

def pf_code_May_1 : PF := ⟨9, [.t 3],
  (.seq (.reg [o 2 (.box (.t 0)), o 3 (.mov (.c (.bool false)))])
  (.seq (.reg [o 4 (.load true 5 (.t 2)), o 5 (.load false 1 (.t 1)), o 6 (.len .sl (.t 5)), o 7 (.call (cf fn_code_Instr_may) [(.t 4), (.t 6)]), o 8 (.un .not (.t 7)), o 3 (.mov (.t 8))])
  .ret))⟩

def pf_code_Instr_may : PF := ⟨50, [.t 4],
  (.seq (.reg [o 2 (.box (.t 0)), o 4 (.mov (.c (.bool false)))])
  (.seq (.reg [o 7 (.faddr 0 (.t 2)), o 8 (.load false 1 (.t 7)), o 9 (.bin .gtr (.t 8) (.c (.int .u8 16))), o 10 (.mov (.t 9)), gt 10 (some 11) (.faddr 0 (.t 2)), gt 10 (some 12) (.load false 1 (.t 11)), gt 10 (some 13) (.bin .leq (.t 12) (.c (.int .u8 38))), o 14 (.pick (.t 10) (.t 13) (.c (.bool false))), o 5 (.mov (.t 14))])
  (.seq (.reg [o 15 (.faddr 0 (.t 2)), o 16 (.load false 1 (.t 15)), o 17 (.eq .int (.t 16) (.c (.int .u8 5))), o 18 (.mov (.t 17)), gf 18 (some 19) (.faddr 0 (.t 2)), gf 18 (some 20) (.load false 1 (.t 19)), gf 18 (some 21) (.eq .int (.t 20) (.c (.int .u8 6))), o 22 (.pick (.t 18) (.c (.bool true)) (.t 21)), o 6 (.mov (.t 22))])
  (.seq (.reg [o 23 (.faddr 0 (.t 2)), o 24 (.load false 1 (.t 23)), o 25 (.bin .leq (.t 24) (.c (.int .u8 6))), o 26 (.mov (.t 25)), gf 26 (some 27) (.mov (.t 5)), o 28 (.pick (.t 26) (.c (.bool true)) (.t 27)), o 29 (.mov (.t 28)), gt 29 (some 30) (.faddr 1 (.t 2)), gt 29 (some 31) (.load false 1 (.t 30)), gt 29 (some 32) (.faddr 2 (.t 2)), gt 29 (some 33) (.load false 1 (.t 32)), gt 29 (some 34) (.faddr 3 (.t 2)), gt 29 (some 35) (.load false 1 (.t 34)), gt 29 (some 36) (.max [(.t 31), (.t 33), (.t 35)]), gt 29 (some 37) (.bin .lss (.t 36) (.c (.int .u8 8))), o 38 (.pick (.t 29) (.t 37) (.c (.bool false))), o 39 (.mov (.t 38)), gt 39 (some 40) (.mov (.t 6)), gt 39 (some 41) (.un .not (.t 40)), gt 39 (some 42) (.mov (.t 41)), gf 42 (some 43) (.faddr 4 (.t 2)), gf 42 (some 44) (.load false 1 (.t 43)), gf 42 (some 45) (.conv .i64 (.t 44)), gf 42 (some 46) (.mov (.t 1)), gf 42 (some 47) (.bin .lss (.t 45) (.t 46)), gt 39 (some 48) (.pick (.t 42) (.c (.bool true)) (.t 47)), o 49 (.pick (.t 39) (.t 48) (.c (.bool false))), o 4 (.mov (.t 49))])
  .ret))))⟩

def pf_strings_Split : PF := ⟨8, [.t 4],
  (.seq (.reg [o 4 (.mov (.c .nils))])
  (.seq (.reg [o 5 (.mov (.t 0)), o 6 (.mov (.t 1)), o 7 (.call (cf fn_strings_genSplit) [(.t 5), (.t 6), (ci 0), (ci (-1))]), o 4 (.mov (.t 7))])
  .ret))⟩

def pf_Pasm_parser_line : PF := ⟨78, [.t 6],
  (.seq (.reg [o 6 (.mov (.c (.bool false)))])
  (.seq (.reg [o 16 (.mov (.t 1)), o 17 (.call (cf fn_strings_Cut) [(.t 16), (.c (S [59]))]), o 15 (.mov (.t 17)), o 18 (.ext (.t 15) 0), o 19 (.ext (.t 15) 1), o 20 (.ext (.t 15) 2), o 1 (.mov (.t 18))])
  (.seq (.reg [o 7 (.mov (cf fn_Pasm_parser_line_1))])
  (.seq (.seq (.reg [o 22 (.mov (.t 1)), o 23 (.call (cf fn_strings_Cut) [(.t 22), (.c (S [58]))]), o 21 (.mov (.t 23)), o 24 (.ext (.t 21) 0), o 25 (.ext (.t 21) 1), o 26 (.ext (.t 21) 2), o 8 (.mov (.t 24)), o 9 (.mov (.t 25)), o 10 (.mov (.t 26))])
  (.seq (.reg [o 27 (.mov (.t 10))])
  (.cond (.t 27) (.seq (.reg [o 28 (.mov (.t 7)), o 29 (.mov (.t 8)), o 30 (.call (.t 28) [(.t 29)]), o 11 (.mov (.t 30))])
    (.seq (.seq (.reg [o 31 (.mov (.t 11)), o 32 (.len .sl (.t 31)), o 33 (.ne .int (.t 32) (ci 1)), o 34 (.mov (.t 33)), gf 34 (some 35) (.mov (.t 11)), gf 34 (some 36) (.iaddrs 1 (.t 35) (ci 0)), gf 34 (some 37) (.load false 1 (.t 36)), gf 34 (some 38) (.call (cf fn_asm_labelled) [(.t 37)]), gf 34 (some 39) (.un .not (.t 38)), o 40 (.pick (.t 34) (.c (.bool true)) (.t 39))])
    (.cond (.t 40) (.seq (.reg [o 6 (.mov (.c (.bool false)))])
      .ret) .skip))
    (.seq (.seq (.dreg [(o 42 (.mov (.t 0)), []), (o 43 (.nilck (.t 42)), []), (o 44 (.faddr 1 (.t 43)), []), (o 45 (.load false 1 (.t 44)), []), (o 46 (.mov (.t 11)), []), (o 47 (.iaddrs 1 (.t 46) (ci 0)), []), (o 48 (.load false 1 (.t 47)), [3]), (o 49 (.lookup .str (.int .i64 0) (.t 45) (.t 48) true), []), (o 41 (.mov (.t 49)), []), (o 50 (.ext (.t 41) 0), []), (o 51 (.ext (.t 41) 1), []), (o 12 (.mov (.t 50)), []), (o 13 (.mov (.t 51)), [])])
    (.seq (.reg [o 52 (.mov (.t 13))])
    (.cond (.t 52) (.seq (.reg [o 6 (.mov (.c (.bool false)))])
      .ret) .skip)))
    (.seq (.dreg [(o 53 (.mov (.t 0)), []), (o 54 (.nilck (.t 53)), []), (o 55 (.faddr 1 (.t 54)), []), (o 56 (.load false 1 (.t 55)), []), (o 57 (.mov (.t 11)), []), (o 58 (.iaddrs 1 (.t 57) (ci 0)), []), (o 59 (.load false 1 (.t 58)), [3]), (o 60 (.mov (.t 0)), []), (o 61 (.nilck (.t 60)), []), (o 62 (.faddr 0 (.t 61)), []), (o 63 (.load false 1 (.t 62)), [3, 6]), (o 64 (.len .sl (.t 63)), [3, 6]), (u (.mput .str (.t 56) (.t 59) (.t 64)), [])])
    (.reg [o 65 (.mov (.t 9)), o 1 (.mov (.t 65))]))))) .skip)))
  (.seq (.reg [o 66 (.mov (.t 7)), o 67 (.mov (.t 1)), o 68 (.call (.t 66) [(.t 67)]), o 14 (.mov (.t 68))])
  (.seq (.reg [o 69 (.mov (.t 14)), o 70 (.len .sl (.t 69)), o 71 (.eq .int (.t 70) (ci 0)), o 72 (.mov (.t 71)), gf 72 (some 73) (.mov (.t 0)), gf 72 (some 74) (.mov (.t 14)), gf 72 (some 75) (.mov (.t 2)), gf 72 (some 76) (.call (cf fn_Pasm_parser_instr) [(.t 73), (.t 74), (.t 75)]), o 77 (.pick (.t 72) (.c (.bool true)) (.t 76)), o 6 (.mov (.t 77))])
  .ret))))))⟩

def pf_istrconv_Itoa : PF := ⟨5, [.t 2],
  (.seq (.reg [o 2 (.mov (.c (S [])))])
  (.seq (.reg [o 3 (.mov (.t 0)), o 4 (.call (cf fn_istrconv_FormatInt) [(.t 3), (ci 10)]), o 2 (.mov (.t 4))])
  .ret))⟩

def l1_slices_IndexFunc_code_Instr_code_Instr : PC :=
  (.seq (.reg [o 9 (.bin .lss (.t 8) (.t 7))])
  (.seq (.cond (.t 9) .skip (.exit 0))
  (.seq (.block 1 (.seq (.reg [o 10 (.mov (.t 8)), o 5 (.mov (.t 10))])
    (.seq (.reg [o 11 (.mov (.t 1)), o 12 (.mov (.t 0)), o 13 (.mov (.t 5)), o 14 (.iaddrs 5 (.t 12) (.t 13)), o 15 (.load true 5 (.t 14)), o 16 (.call (.t 11) [(.t 15)])])
    (.cond (.t 16) (.seq (.reg [o 17 (.mov (.t 5)), o 4 (.mov (.t 17))])
      .ret) .skip))))
  (.reg [o 18 (.bin .add (.t 8) (ci 1)), o 8 (.mov (.t 18))]))))
def pf_slices_IndexFunc_code_Instr_code_Instr : PF := ⟨19, [.t 4],
  (.seq (.reg [o 4 (.mov (ci 0))])
  (.seq (.seq (.reg [o 6 (.mov (.t 0)), o 7 (.len .sl (.t 6)), o 8 (.mov (ci 0))])
  (.block 0 (.loop l1_slices_IndexFunc_code_Instr_code_Instr)))
  (.seq (.reg [o 4 (.mov (ci (-1)))])
  .ret)))⟩

def l1_strings_genSplit : PC :=
  (.seq (.seq (.reg [o 34 (.mov (.t 10)), o 35 (.mov (.t 3)), o 36 (.bin .lss (.t 34) (.t 35))])
  (.cond (.t 36) .skip (.exit 0)))
  (.block 1 (.seq (.reg [o 37 (.mov (.t 0)), o 38 (.mov (.t 1)), o 39 (.call (cf fn_strings_Index) [(.t 37), (.t 38)]), o 11 (.mov (.t 39))])
    (.seq (.seq (.reg [o 40 (.mov (.t 11)), o 41 (.bin .lss (.t 40) (ci 0))])
    (.cond (.t 41) (.exit 0) .skip))
    (.seq (.reg [o 42 (.mov (.t 9)), o 43 (.mov (.t 10)), o 44 (.mov (.t 0)), o 45 (.mov (.t 11)), o 46 (.mov (.t 2)), o 47 (.bin .add (.t 45) (.t 46)), o 48 (.slstr (.t 44) none (some (.t 47))), o 49 (.iaddrs 1 (.t 42) (.t 43)), u (.store 1 (.t 49) (.t 48))])
    (.seq (.reg [o 50 (.mov (.t 0)), o 51 (.mov (.t 11)), o 52 (.mov (.t 1)), o 53 (.len .str (.t 52)), o 54 (.bin .add (.t 51) (.t 53)), o 55 (.slstr (.t 50) (some (.t 54)) none), o 0 (.mov (.t 55))])
    (.reg [o 56 (.mov (.t 10)), o 57 (.bin .add (.t 56) (ci 1)), o 10 (.mov (.t 57))])))))))
def pf_strings_genSplit : PF := ⟨66, [.t 8],
  (.seq (.reg [o 8 (.mov (.c .nils))])
  (.seq (.seq (.reg [o 12 (.mov (.t 3)), o 13 (.eq .int (.t 12) (ci 0))])
  (.cond (.t 13) (.seq (.reg [o 8 (.mov (.c .nils))])
    .ret) .skip))
  (.seq (.seq (.reg [o 14 (.mov (.t 1)), o 15 (.eq .str (.t 14) (.c (S [])))])
  (.cond (.t 15) (.seq (.reg [o 16 (.mov (.t 0)), o 17 (.mov (.t 3)), o 18 (.call (cf fn_strings_explode) [(.t 16), (.t 17)]), o 8 (.mov (.t 18))])
    .ret) .skip))
  (.seq (.seq (.reg [o 19 (.mov (.t 3)), o 20 (.bin .lss (.t 19) (ci 0))])
  (.cond (.t 20) (.reg [o 21 (.mov (.t 0)), o 22 (.mov (.t 1)), o 23 (.call (cf fn_strings_Count) [(.t 21), (.t 22)]), o 24 (.bin .add (.t 23) (ci 1)), o 3 (.mov (.t 24))]) .skip))
  (.seq (.reg [o 25 (.mov (.t 3)), o 26 (.mov (.t 0)), o 27 (.len .str (.t 26)), o 28 (.bin .add (.t 27) (ci 1)), o 29 (.min [(.t 25), (.t 28)]), o 3 (.mov (.t 29))])
  (.seq (.reg [o 30 (.mov (.t 3)), o 31 (.mkslice ty_string [(S [])] 16 (.t 30) (.t 30)), o 9 (.mov (.t 31))])
  (.seq (.reg [o 32 (.mov (.t 3)), o 33 (.bin .sub (.t 32) (ci 1)), o 3 (.mov (.t 33))])
  (.seq (.reg [o 10 (.mov (ci 0))])
  (.seq (.block 0 (.loop l1_strings_genSplit))
  (.seq (.reg [o 58 (.mov (.t 9)), o 59 (.mov (.t 10)), o 60 (.mov (.t 0)), o 61 (.iaddrs 1 (.t 58) (.t 59)), u (.store 1 (.t 61) (.t 60))])
  (.seq (.reg [o 62 (.mov (.t 9)), o 63 (.mov (.t 10)), o 64 (.bin .add (.t 63) (ci 1)), o 65 (.slsl 1 (.t 62) none (some (.t 64)) none), o 8 (.mov (.t 65))])
  .ret)))))))))))⟩

def pf_strings_Cut : PF := ⟨13, [.t 4, .t 5, .t 6],
  (.seq (.reg [o 4 (.mov (.c (S []))), o 5 (.mov (.c (S []))), o 6 (.mov (.c (.bool false)))])
  (.seq (.reg [o 7 (.mov (.t 0)), o 8 (.mov (.t 1)), o 9 (.call (cf fn_istringslite_Cut) [(.t 7), (.t 8)]), o 10 (.ext (.t 9) 0), o 11 (.ext (.t 9) 1), o 12 (.ext (.t 9) 2), o 4 (.mov (.t 10)), o 5 (.mov (.t 11)), o 6 (.mov (.t 12))])
  .ret))⟩

def pf_Pasm_parser_line_1 : PF := ⟨5, [.t 2],
  (.seq (.reg [o 2 (.mov (.c .nils))])
  (.seq (.reg [o 3 (.mov (.t 0)), o 4 (.call (cf fn_strings_FieldsFunc) [(.t 3), (cf fn_Pasm_parser_line_1_1)]), o 2 (.mov (.t 4))])
  .ret))⟩

def l2_strings_FieldsFunc : PC :=
  (.seq (.reg [o 50 (.bin .lss (.t 49) (.t 48))])
  (.seq (.cond (.t 50) .skip (.exit 2))
  (.seq (.block 3 (.seq (.reg [o 51 (.mov (.t 49)), o 52 (.iaddrs 2 (.t 47) (.t 49)), o 53 (.load true 2 (.t 52)), o 11 (.alloc [(.int .i64 0), (.int .i64 0)] none), o 10 (.mov (.t 51)), u (.store 2 (.t 11) (.t 53))])
    (.reg [o 54 (.mov (.t 9)), o 55 (.mov (.t 10)), o 56 (.mov (.t 0)), o 57 (.faddr 0 (.t 11)), o 58 (.load false 1 (.t 57)), o 59 (.faddr 1 (.t 11)), o 60 (.load false 1 (.t 59)), o 61 (.slstr (.t 56) (some (.t 58)) (some (.t 60))), o 62 (.iaddrs 1 (.t 54) (.t 55)), u (.store 1 (.t 62) (.t 61))])))
  (.reg [o 63 (.bin .add (.t 49) (ci 1)), o 49 (.mov (.t 63))]))))
def l1_strings_FieldsFunc : PC :=
  (.seq (.reg [o 15 (.nxt (.t 14)), o 16 (.ext (.t 15) 0)])
  (.seq (.cond (.t 16) .skip (.exit 0))
  (.block 1 (.seq (.reg [o 17 (.ext (.t 15) 1), o 18 (.ext (.t 15) 2), o 7 (.mov (.t 17)), o 8 (.mov (.t 18))])
    (.seq (.reg [o 19 (.mov (.t 1)), o 20 (.mov (.t 8)), o 21 (.call (.t 19) [(.t 20)])])
    (.cond (.t 21) (.seq (.reg [o 22 (.mov (.t 6)), o 23 (.bin .geq (.t 22) (ci 0))])
      (.cond (.t 23) (.seq (.reg [o 24 (.mov (.t 5)), o 25 (.mov (.t 6)), o 26 (.mov (.t 7)), o 27 (.build [(.int .i64 0), (.int .i64 0)] [(0, 1, (.t 25)), (1, 1, (.t 26))]), o 28 (.bslice [(.int .i64 0), (.int .i64 0)] 1 [(0, 2, (.t 27))]), o 29 (.append ty_strings_span 2 16 (.t 24) (.t 28)), o 5 (.mov (.t 29))])
        (.reg [o 30 (.mov (.t 6)), o 31 (.un .xor (.t 30)), o 6 (.mov (.t 31))])) .skip)) (.seq (.reg [o 32 (.mov (.t 6)), o 33 (.bin .lss (.t 32) (ci 0))])
      (.cond (.t 33) (.reg [o 34 (.mov (.t 7)), o 6 (.mov (.t 34))]) .skip))))))))
def pf_strings_FieldsFunc : PF := ⟨65, [.t 4],
  (.seq (.reg [o 4 (.mov (.c .nils))])
  (.seq (.reg [o 12 (.mkslice ty_strings_span [(.int .i64 0), (.int .i64 0)] 16 (ci 0) (ci 32)), o 5 (.mov (.t 12))])
  (.seq (.reg [o 6 (.mov (ci (-1)))])
  (.seq (.seq (.reg [o 13 (.mov (.t 0)), o 14 (.rng (.t 13))])
  (.block 0 (.loop l1_strings_FieldsFunc)))
  (.seq (.seq (.reg [o 35 (.mov (.t 6)), o 36 (.bin .geq (.t 35) (ci 0))])
  (.cond (.t 36) (.reg [o 37 (.mov (.t 5)), o 38 (.mov (.t 6)), o 39 (.mov (.t 0)), o 40 (.len .str (.t 39)), o 41 (.build [(.int .i64 0), (.int .i64 0)] [(0, 1, (.t 38)), (1, 1, (.t 40))]), o 42 (.bslice [(.int .i64 0), (.int .i64 0)] 1 [(0, 2, (.t 41))]), o 43 (.append ty_strings_span 2 16 (.t 37) (.t 42)), o 5 (.mov (.t 43))]) .skip))
  (.seq (.reg [o 44 (.mov (.t 5)), o 45 (.len .sl (.t 44)), o 46 (.mkslice ty_string [(S [])] 16 (.t 45) (.t 45)), o 9 (.mov (.t 46))])
  (.seq (.seq (.reg [o 47 (.mov (.t 5)), o 48 (.len .sl (.t 47)), o 49 (.mov (ci 0))])
  (.block 2 (.loop l2_strings_FieldsFunc)))
  (.seq (.reg [o 64 (.mov (.t 9)), o 4 (.mov (.t 64))])
  .ret))))))))⟩

def pf_Pasm_parser_line_1_1 : PF := ⟨9, [.t 2],
  (.seq (.reg [o 2 (.mov (.c (.bool false)))])
  (.seq (.reg [o 3 (.mov (.t 0)), o 4 (.eq .int (.t 3) (.c (.int .i32 32))), o 5 (.mov (.t 4)), gf 5 (some 6) (.mov (.t 0)), gf 5 (some 7) (.eq .int (.t 6) (.c (.int .i32 9))), o 8 (.pick (.t 5) (.c (.bool true)) (.t 7)), o 2 (.mov (.t 8))])
  .ret))⟩

def pf_asm_labelled : PF := ⟨23, [.t 2],
  (.seq (.reg [o 2 (.mov (.c (.bool false)))])
  (.seq (.reg [o 4 (.mov (.t 0)), o 5 (.call (cf fn_strings_Trim) [(.t 4), (.c (S str_dfc6f27b))]), o 6 (.ne .str (.t 5) (.c (S []))), o 3 (.mov (.t 6))])
  (.seq (.reg [o 7 (.mov (.t 0)), o 8 (.ne .str (.t 7) (.c (S []))), o 9 (.mov (.t 8)), gt 9 (some 10) (.mov (.t 0)), gt 9 (some 11) (.len .str (.t 10)), gt 9 (some 12) (.bin .leq (.t 11) (ci 8)), o 13 (.pick (.t 9) (.t 12) (.c (.bool false))), o 14 (.mov (.t 13)), gt 14 (some 15) (.mov (.t 3)), gt 14 (some 16) (.un .not (.t 15)), o 17 (.pick (.t 14) (.t 16) (.c (.bool false))), o 18 (.mov (.t 17)), gt 18 (some 19) (.mov (.t 0)), gt 18 (some 20) (.idxs (.t 19) (ci 0)), gt 18 (some 21) (.bin .geq (.t 20) (.c (.int .u8 97))), o 22 (.pick (.t 18) (.t 21) (.c (.bool false))), o 2 (.mov (.t 22))])
  .ret)))⟩

def l1_Pasm_parser_instr : PC :=
  (.seq (.reg [o 32 (.bin .lss (.t 31) (.t 30))])
  (.seq (.cond (.t 32) .skip (.exit 0))
  (.seq (.block 1 (.seq (.reg [o 33 (.mov (.t 31)), o 34 (.iaddrs 1 (.t 29) (.t 31)), o 35 (.load false 1 (.t 34)), o 9 (.mov (.t 33)), o 10 (.mov (.t 35))])
    (.seq (.reg [o 36 (.mov (.t 1)), o 37 (.mov (.t 9)), o 38 (.bin .add (.t 37) (ci 1)), o 39 (.iaddrs 1 (.t 36) (.t 38)), o 40 (.load false 1 (.t 39)), o 11 (.mov (.t 40))])
    (.seq (.seq (.reg [o 41 (.mov (.t 11)), o 42 (.len .str (.t 41)), o 43 (.ne .int (.t 42) (ci 2)), o 44 (.mov (.t 43)), gf 44 (some 45) (.mov (.t 11)), gf 44 (some 46) (.idxs (.t 45) (ci 0)), gf 44 (some 47) (.ne .int (.t 46) (.c (.int .u8 114))), o 48 (.pick (.t 44) (.c (.bool true)) (.t 47)), o 49 (.mov (.t 48)), gf 49 (some 50) (.mov (.t 11)), gf 49 (some 51) (.idxs (.t 50) (ci 1)), gf 49 (some 52) (.bin .lss (.t 51) (.c (.int .u8 48))), o 53 (.pick (.t 49) (.c (.bool true)) (.t 52)), o 54 (.mov (.t 53)), gf 54 (some 55) (.mov (.t 11)), gf 54 (some 56) (.idxs (.t 55) (ci 1)), gf 54 (some 57) (.bin .geq (.t 56) (.c (.int .u8 56))), o 58 (.pick (.t 54) (.c (.bool true)) (.t 57))])
    (.cond (.t 58) (.seq (.reg [o 6 (.mov (.c (.bool false)))])
      .ret) .skip))
    (.reg [o 59 (.mov (.t 10)), o 60 (.mov (.t 11)), o 61 (.idxs (.t 60) (ci 1)), o 62 (.bin .sub (.t 61) (.c (.int .u8 48))), o 63 (.nilck (.t 59)), u (.store 1 (.t 63) (.t 62))])))))
  (.reg [o 64 (.bin .add (.t 31) (ci 1)), o 31 (.mov (.t 64))]))))
def pf_Pasm_parser_instr : PF := ⟨115, [.t 6],
  (.seq (.reg [o 6 (.mov (.c (.bool false)))])
  (.seq (.seq (.reg [o 14 (.mov (.t 1)), o 15 (.len .sl (.t 14)), o 16 (.ne .int (.t 15) (ci 5))])
  (.cond (.t 16) (.seq (.reg [o 6 (.mov (.c (.bool false)))])
    .ret) .skip))
  (.seq (.dreg [(o 17 (.slarr 39 1 (.c (.glob g_asm_words)) none none), []), (o 18 (.mov (.t 1)), []), (o 19 (.iaddrs 1 (.t 18) (ci 0)), []), (o 20 (.load false 1 (.t 19)), []), (o 21 (.call (cf fn_slices_Index_string_string) [(.t 17), (.t 20)]), []), (o 7 (.mov (.t 21)), [])])
  (.seq (.reg [o 22 (.mov (.t 7)), o 23 (.max [(.t 22), (ci 0)]), o 24 (.conv .u8 (.t 23)), o 25 (.build [(.int .u8 0), (.int .u8 0), (.int .u8 0), (.int .u8 0), (.int .u16 0)] [(0, 1, (.t 24))]), o 8 (.alloc [(.int .u8 0), (.int .u8 0), (.int .u8 0), (.int .u8 0), (.int .u16 0)] none), u (.store 5 (.t 8) (.t 25))])
  (.seq (.seq (.reg [o 26 (.faddr 1 (.t 8)), o 27 (.faddr 2 (.t 8)), o 28 (.faddr 3 (.t 8)), o 29 (.bslice [.nilp] 3 [(0, 1, (.t 26)), (1, 1, (.t 27)), (2, 1, (.t 28))]), o 30 (.len .sl (.t 29)), o 31 (.mov (ci 0))])
  (.block 0 (.loop l1_Pasm_parser_instr)))
  (.seq (.reg [o 66 (.mov (.t 1)), o 67 (.iaddrs 1 (.t 66) (ci 4)), o 68 (.load false 1 (.t 67)), o 69 (.call (cf fn_asm_number) [(.t 68)]), o 65 (.mov (.t 69)), o 70 (.ext (.t 65) 0), o 71 (.ext (.t 65) 1), o 12 (.mov (.t 70)), o 13 (.mov (.t 71))])
  (.seq (.block 2 (.seq (.reg [o 75 (.mov (.t 7)), o 76 (.bin .lss (.t 75) (ci 0)), o 74 (.mov (.t 76))])
    (.cond (.t 74) (.seq (.reg [o 6 (.mov (.c (.bool false)))])
      .ret) (.seq (.reg [o 78 (.faddr 0 (.t 8)), o 79 (.load false 1 (.t 78)), o 80 (.call (cf fn_asm_goes) [(.t 79)]), o 77 (.mov (.t 80))])
      (.cond (.t 77) (.seq (.reg [o 81 (.mov (.t 1)), o 82 (.iaddrs 1 (.t 81) (ci 4)), o 83 (.load false 1 (.t 82)), o 84 (.call (cf fn_asm_labelled) [(.t 83)]), o 13 (.mov (.t 84))])
        (.dreg [(o 85 (.mov (.t 0)), []), (o 86 (.mov (.t 0)), []), (o 87 (.nilck (.t 86)), []), (o 88 (.faddr 2 (.t 87)), []), (o 89 (.load false 1 (.t 88)), []), (o 90 (.mov (.t 1)), []), (o 91 (.iaddrs 1 (.t 90) (ci 4)), []), (o 92 (.load false 1 (.t 91)), [4]), (o 93 (.mov (.t 2)), []), (o 94 (.mov (.t 0)), []), (o 95 (.nilck (.t 94)), []), (o 96 (.faddr 0 (.t 95)), []), (o 97 (.load false 1 (.t 96)), [4, 7]), (o 98 (.len .sl (.t 97)), [4, 7]), (o 99 (.build [(S []), (.int .i64 0), (.int .i64 0)] [(0, 1, (.t 92)), (1, 1, (.t 93)), (2, 1, (.t 98))]), []), (o 100 (.bslice [(S []), (.int .i64 0), (.int .i64 0)] 1 [(0, 3, (.t 99))]), []), (o 101 (.append ty_asm_use 3 32 (.t 89) (.t 100)), []), (o 102 (.nilck (.t 85)), []), (o 103 (.faddr 2 (.t 102)), []), (u (.store 1 (.t 103) (.t 101)), [])])) (.reg [o 72 (.mov (.t 12)), o 73 (.faddr 4 (.t 8)), u (.store 1 (.t 73) (.t 72))]))))))
  (.seq (.dreg [(o 104 (.mov (.t 0)), []), (o 105 (.mov (.t 0)), []), (o 106 (.nilck (.t 105)), []), (o 107 (.faddr 0 (.t 106)), []), (o 108 (.load false 1 (.t 107)), []), (o 109 (.load true 5 (.t 8)), [4]), (o 110 (.bslice [(.int .u8 0), (.int .u8 0), (.int .u8 0), (.int .u8 0), (.int .u16 0)] 1 [(0, 5, (.t 109))]), []), (o 111 (.append ty_code_Instr 5 6 (.t 108) (.t 110)), []), (o 112 (.nilck (.t 104)), []), (o 113 (.faddr 0 (.t 112)), []), (u (.store 1 (.t 113) (.t 111)), [])])
  (.seq (.reg [o 114 (.mov (.t 13)), o 6 (.mov (.t 114))])
  .ret)))))))))⟩

def pf_istrconv_FormatInt : PF := ⟨54, [.t 4],
  (.seq (.reg [o 4 (.mov (.c (S [])))])
  (.seq (.seq (.reg [o 10 (.mov (.t 1)), o 11 (.eq .int (.t 10) (ci 10))])
  (.cond (.t 11) (.seq (.seq (.reg [o 12 (.mov (.t 0)), o 13 (.bin .leq (ci 0) (.t 12)), o 14 (.mov (.t 13)), gt 14 (some 15) (.mov (.t 0)), gt 14 (some 16) (.bin .lss (.t 15) (ci 100)), o 17 (.pick (.t 14) (.t 16) (.c (.bool false)))])
    (.cond (.t 17) (.seq (.reg [o 18 (.mov (.t 0)), o 19 (.call (cf fn_istrconv_small) [(.t 18)]), o 4 (.mov (.t 19))])
      .ret) .skip))
    (.seq (.reg [o 5 (.alloc [(.int .u8 0), (.int .u8 0), (.int .u8 0), (.int .u8 0), (.int .u8 0), (.int .u8 0), (.int .u8 0), (.int .u8 0), (.int .u8 0), (.int .u8 0), (.int .u8 0), (.int .u8 0), (.int .u8 0), (.int .u8 0), (.int .u8 0), (.int .u8 0), (.int .u8 0), (.int .u8 0), (.int .u8 0), (.int .u8 0), (.int .u8 0), (.int .u8 0), (.int .u8 0), (.int .u8 0)] none)])
    (.seq (.reg [o 20 (.mov (.t 0)), o 21 (.conv .u64 (.t 20)), o 6 (.mov (.t 21))])
    (.seq (.seq (.reg [o 22 (.mov (.t 0)), o 23 (.bin .lss (.t 22) (ci 0))])
    (.cond (.t 23) (.reg [o 24 (.mov (.t 6)), o 25 (.un .neg (.t 24)), o 6 (.mov (.t 25))]) .skip))
    (.seq (.reg [o 26 (.mov (.t 6)), o 27 (.call (cf fn_istrconv_numDigits) [(.t 26)]), o 7 (.mov (.t 27))])
    (.seq (.reg [o 28 (.mov (.t 7)), o 29 (.bin .add (ci 1) (.t 28)), o 30 (.slarr 24 1 (.t 5) (some (ci 1)) (some (.t 29))), o 31 (.mov (.t 6)), o 32 (.call (cf fn_istrconv_formatBase10) [(.t 30), (.t 31)])])
    (.seq (.seq (.reg [o 33 (.mov (.t 0)), o 34 (.bin .lss (.t 33) (ci 0))])
    (.cond (.t 34) (.seq (.reg [o 35 (.iaddra 24 1 (.t 5) (ci 0)), u (.store 1 (.t 35) (.c (.int .u8 45)))])
      (.seq (.reg [o 36 (.mov (.t 7)), o 37 (.bin .add (ci 1) (.t 36)), o 38 (.slarr 24 1 (.t 5) none (some (.t 37))), o 39 (.b2s (.t 38)), o 4 (.mov (.t 39))])
      .ret)) .skip))
    (.seq (.reg [o 40 (.mov (.t 7)), o 41 (.bin .add (ci 1) (.t 40)), o 42 (.slarr 24 1 (.t 5) (some (ci 1)) (some (.t 41))), o 43 (.b2s (.t 42)), o 4 (.mov (.t 43))])
    .ret)))))))) .skip))
  (.seq (.reg [o 45 (.mov (.t 0)), o 46 (.conv .u64 (.t 45)), o 47 (.mov (.t 1)), o 48 (.mov (.t 0)), o 49 (.bin .lss (.t 48) (ci 0)), o 50 (.call (cf fn_istrconv_formatBits) [(.c .nils), (.t 46), (.t 47), (.t 49), (.c (.bool false))]), o 44 (.mov (.t 50)), o 51 (.ext (.t 44) 0), o 52 (.ext (.t 44) 1), o 8 (.mov (.t 51)), o 9 (.mov (.t 52))])
  (.seq (.reg [o 53 (.mov (.t 9)), o 4 (.mov (.t 53))])
  .ret))))⟩

def l1_strings_explode : PC :=
  (.seq (.seq (.reg [o 22 (.mov (.t 7)), o 23 (.mov (.t 1)), o 24 (.bin .sub (.t 23) (ci 1)), o 25 (.bin .lss (.t 22) (.t 24))])
  (.cond (.t 25) .skip (.exit 0)))
  (.seq (.block 1 (.seq (.reg [o 29 (.mov (.t 0)), o 30 (.call (cf fn_unicode_utf8_DecodeRuneInString) [(.t 29)]), o 28 (.mov (.t 30)), o 31 (.ext (.t 28) 0), o 32 (.ext (.t 28) 1), o 8 (.mov (.t 31)), o 9 (.mov (.t 32))])
    (.seq (.reg [o 33 (.mov (.t 6)), o 34 (.mov (.t 7)), o 35 (.mov (.t 0)), o 36 (.mov (.t 9)), o 37 (.slstr (.t 35) none (some (.t 36))), o 38 (.iaddrs 1 (.t 33) (.t 34)), u (.store 1 (.t 38) (.t 37))])
    (.reg [o 39 (.mov (.t 0)), o 40 (.mov (.t 9)), o 41 (.slstr (.t 39) (some (.t 40)) none), o 0 (.mov (.t 41))]))))
  (.reg [o 26 (.mov (.t 7)), o 27 (.bin .add (.t 26) (ci 1)), o 7 (.mov (.t 27))])))
def pf_strings_explode : PF := ⟨50, [.t 4],
  (.seq (.reg [o 4 (.mov (.c .nils))])
  (.seq (.reg [o 10 (.mov (.t 0)), o 11 (.call (cf fn_unicode_utf8_RuneCountInString) [(.t 10)]), o 5 (.mov (.t 11))])
  (.seq (.seq (.reg [o 12 (.mov (.t 1)), o 13 (.bin .lss (.t 12) (ci 0)), o 14 (.mov (.t 13)), gf 14 (some 15) (.mov (.t 1)), gf 14 (some 16) (.mov (.t 5)), gf 14 (some 17) (.bin .gtr (.t 15) (.t 16)), o 18 (.pick (.t 14) (.c (.bool true)) (.t 17))])
  (.cond (.t 18) (.reg [o 19 (.mov (.t 5)), o 1 (.mov (.t 19))]) .skip))
  (.seq (.reg [o 20 (.mov (.t 1)), o 21 (.mkslice ty_string [(S [])] 16 (.t 20) (.t 20)), o 6 (.mov (.t 21))])
  (.seq (.seq (.reg [o 7 (.mov (ci 0))])
  (.block 0 (.loop l1_strings_explode)))
  (.seq (.seq (.reg [o 42 (.mov (.t 1)), o 43 (.bin .gtr (.t 42) (ci 0))])
  (.cond (.t 43) (.reg [o 44 (.mov (.t 6)), o 45 (.mov (.t 1)), o 46 (.bin .sub (.t 45) (ci 1)), o 47 (.mov (.t 0)), o 48 (.iaddrs 1 (.t 44) (.t 46)), u (.store 1 (.t 48) (.t 47))]) .skip))
  (.seq (.reg [o 49 (.mov (.t 6)), o 4 (.mov (.t 49))])
  .ret)))))))⟩

def l1_strings_Count : PC :=
  (.block 1 (.seq (.reg [o 20 (.mov (.t 0)), o 21 (.mov (.t 1)), o 22 (.call (cf fn_strings_Index) [(.t 20), (.t 21)]), o 6 (.mov (.t 22))])
    (.seq (.seq (.reg [o 23 (.mov (.t 6)), o 24 (.eq .int (.t 23) (ci (-1)))])
    (.cond (.t 24) (.seq (.reg [o 25 (.mov (.t 5)), o 4 (.mov (.t 25))])
      .ret) .skip))
    (.seq (.reg [o 26 (.mov (.t 5)), o 27 (.bin .add (.t 26) (ci 1)), o 5 (.mov (.t 27))])
    (.reg [o 28 (.mov (.t 0)), o 29 (.mov (.t 6)), o 30 (.mov (.t 1)), o 31 (.len .str (.t 30)), o 32 (.bin .add (.t 29) (.t 31)), o 33 (.slstr (.t 28) (some (.t 32)) none), o 0 (.mov (.t 33))])))))
def pf_strings_Count : PF := ⟨34, [.t 4],
  (.seq (.reg [o 4 (.mov (ci 0))])
  (.seq (.seq (.reg [o 7 (.mov (.t 1)), o 8 (.len .str (.t 7)), o 9 (.eq .int (.t 8) (ci 0))])
  (.cond (.t 9) (.seq (.reg [o 10 (.mov (.t 0)), o 11 (.call (cf fn_unicode_utf8_RuneCountInString) [(.t 10)]), o 12 (.bin .add (.t 11) (ci 1)), o 4 (.mov (.t 12))])
    .ret) .skip))
  (.seq (.seq (.reg [o 13 (.mov (.t 1)), o 14 (.len .str (.t 13)), o 15 (.eq .int (.t 14) (ci 1))])
  (.cond (.t 15) (.seq (.reg [o 16 (.mov (.t 0)), o 17 (.mov (.t 1)), o 18 (.idxs (.t 17) (ci 0)), o 19 (.call (cf fn_ibytealg_CountString) [(.t 16), (.t 18)]), o 4 (.mov (.t 19))])
    .ret) .skip))
  (.seq (.reg [o 5 (.mov (ci 0))])
  (.block 0 (.loop l1_strings_Count))))))⟩

def pf_strings_Index : PF := ⟨8, [.t 4],
  (.seq (.reg [o 4 (.mov (ci 0))])
  (.seq (.reg [o 5 (.mov (.t 0)), o 6 (.mov (.t 1)), o 7 (.call (cf fn_istringslite_Index) [(.t 5), (.t 6)]), o 4 (.mov (.t 7))])
  .ret))⟩

def pf_istringslite_Cut : PF := ⟨23, [.t 4, .t 5, .t 6],
  (.seq (.reg [o 4 (.mov (.c (S []))), o 5 (.mov (.c (S []))), o 6 (.mov (.c (.bool false)))])
  (.seq (.seq (.reg [o 8 (.mov (.t 0)), o 9 (.mov (.t 1)), o 10 (.call (cf fn_istringslite_Index) [(.t 8), (.t 9)]), o 7 (.mov (.t 10))])
  (.seq (.reg [o 11 (.mov (.t 7)), o 12 (.bin .geq (.t 11) (ci 0))])
  (.cond (.t 12) (.seq (.dreg [(o 13 (.mov (.t 0)), []), (o 14 (.mov (.t 7)), []), (o 15 (.slstr (.t 13) none (some (.t 14))), []), (o 16 (.mov (.t 0)), []), (o 17 (.mov (.t 7)), []), (o 18 (.mov (.t 1)), []), (o 19 (.len .str (.t 18)), []), (o 20 (.bin .add (.t 17) (.t 19)), []), (o 21 (.slstr (.t 16) (some (.t 20)) none), []), (o 4 (.mov (.t 15)), []), (o 5 (.mov (.t 21)), []), (o 6 (.mov (.c (.bool true))), [])])
    .ret) .skip)))
  (.seq (.reg [o 22 (.mov (.t 0)), o 4 (.mov (.t 22)), o 5 (.mov (.c (S []))), o 6 (.mov (.c (.bool false)))])
  .ret)))⟩

def pf_strings_Trim : PF := ⟨43, [.t 4],
  (.seq (.reg [o 4 (.mov (.c (S [])))])
  (.seq (.seq (.reg [o 7 (.mov (.t 0)), o 8 (.eq .str (.t 7) (.c (S []))), o 9 (.mov (.t 8)), gf 9 (some 10) (.mov (.t 1)), gf 9 (some 11) (.eq .str (.t 10) (.c (S []))), o 12 (.pick (.t 9) (.c (.bool true)) (.t 11))])
  (.cond (.t 12) (.seq (.reg [o 13 (.mov (.t 0)), o 4 (.mov (.t 13))])
    .ret) .skip))
  (.seq (.seq (.reg [o 14 (.mov (.t 1)), o 15 (.len .str (.t 14)), o 16 (.eq .int (.t 15) (ci 1)), o 17 (.mov (.t 16)), gt 17 (some 18) (.mov (.t 1)), gt 17 (some 19) (.idxs (.t 18) (ci 0)), gt 17 (some 20) (.bin .lss (.t 19) (.c (.int .u8 128))), o 21 (.pick (.t 17) (.t 20) (.c (.bool false)))])
  (.cond (.t 21) (.seq (.dreg [(o 22 (.mov (.t 0)), []), (o 23 (.mov (.t 1)), []), (o 24 (.idxs (.t 23) (ci 0)), []), (o 25 (.call (cf fn_strings_trimRightByte) [(.t 22), (.t 24)]), []), (o 26 (.mov (.t 1)), []), (o 27 (.idxs (.t 26) (ci 0)), []), (o 28 (.call (cf fn_strings_trimLeftByte) [(.t 25), (.t 27)]), []), (o 4 (.mov (.t 28)), [])])
    .ret) .skip))
  (.seq (.seq (.reg [o 30 (.mov (.t 1)), o 31 (.call (cf fn_strings_makeASCIISet) [(.t 30)]), o 29 (.mov (.t 31)), o 32 (.ext (.t 29) 0), o 33 (.ext (.t 29) 1), o 5 (.alloc (reps 256 (.bool false)) none), u (.store 256 (.t 5) (.t 32)), o 6 (.mov (.t 33))])
  (.seq (.reg [o 34 (.mov (.t 6))])
  (.cond (.t 34) (.seq (.reg [o 35 (.mov (.t 0)), o 36 (.call (cf fn_strings_trimRightASCII) [(.t 35), (.t 5)]), o 37 (.call (cf fn_strings_trimLeftASCII) [(.t 36), (.t 5)]), o 4 (.mov (.t 37))])
    .ret) .skip)))
  (.seq (.reg [o 38 (.mov (.t 0)), o 39 (.mov (.t 1)), o 40 (.call (cf fn_strings_trimRightUnicode) [(.t 38), (.t 39)]), o 41 (.mov (.t 1)), o 42 (.call (cf fn_strings_trimLeftUnicode) [(.t 40), (.t 41)]), o 4 (.mov (.t 42))])
  .ret)))))⟩

def l1_slices_Index_string_string : PC :=
  (.seq (.reg [o 9 (.bin .lss (.t 8) (.t 7))])
  (.seq (.cond (.t 9) .skip (.exit 0))
  (.seq (.block 1 (.seq (.reg [o 10 (.mov (.t 8)), o 5 (.mov (.t 10))])
    (.seq (.reg [o 11 (.mov (.t 1)), o 12 (.mov (.t 0)), o 13 (.mov (.t 5)), o 14 (.iaddrs 1 (.t 12) (.t 13)), o 15 (.load false 1 (.t 14)), o 16 (.eq .str (.t 11) (.t 15))])
    (.cond (.t 16) (.seq (.reg [o 17 (.mov (.t 5)), o 4 (.mov (.t 17))])
      .ret) .skip))))
  (.reg [o 18 (.bin .add (.t 8) (ci 1)), o 8 (.mov (.t 18))]))))
def pf_slices_Index_string_string : PF := ⟨19, [.t 4],
  (.seq (.reg [o 4 (.mov (ci 0))])
  (.seq (.seq (.reg [o 6 (.mov (.t 0)), o 7 (.len .sl (.t 6)), o 8 (.mov (ci 0))])
  (.block 0 (.loop l1_slices_Index_string_string)))
  (.seq (.reg [o 4 (.mov (ci (-1)))])
  .ret)))⟩

def pf_asm_number : PF := ⟨21, [.t 2, .t 3],
  (.seq (.reg [o 2 (.mov (.c (.int .u16 0))), o 3 (.mov (.c (.bool false)))])
  (.seq (.reg [o 7 (.mov (.t 0)), o 8 (.call (cf fn_strconv_ParseUint) [(.t 7), (ci 10), (ci 16)]), o 6 (.mov (.t 8)), o 9 (.ext (.t 6) 0), o 10 (.ext (.t 6) 1), o 4 (.mov (.t 9)), o 5 (.mov (.t 10))])
  (.seq (.reg [o 11 (.mov (.t 4)), o 12 (.conv .u16 (.t 11)), o 13 (.mov (.t 5)), o 14 (.eq .ifc (.t 13) (.c .nili)), o 15 (.mov (.t 14)), gt 15 (some 16) (.mov (.t 4)), gt 15 (some 17) (.call (cf fn_strconv_FormatUint) [(.t 16), (ci 10)]), gt 15 (some 18) (.mov (.t 0)), gt 15 (some 19) (.eq .str (.t 17) (.t 18)), o 20 (.pick (.t 15) (.t 19) (.c (.bool false))), o 2 (.mov (.t 12)), o 3 (.mov (.t 20))])
  .ret)))⟩

def pf_istrconv_small : PF := ⟨15, [.t 2],
  (.seq (.reg [o 2 (.mov (.c (S [])))])
  (.seq (.seq (.reg [o 3 (.mov (.t 0)), o 4 (.bin .lss (.t 3) (ci 10))])
  (.cond (.t 4) (.seq (.reg [o 5 (.mov (.t 0)), o 6 (.mov (.t 0)), o 7 (.bin .add (.t 6) (ci 1)), o 8 (.slstr (.c (S str_fdb5537d)) (some (.t 5)) (some (.t 7))), o 2 (.mov (.t 8))])
    .ret) .skip))
  (.seq (.reg [o 9 (.mov (.t 0)), o 10 (.bin .mul (.t 9) (ci 2)), o 11 (.mov (.t 0)), o 12 (.bin .mul (.t 11) (ci 2)), o 13 (.bin .add (.t 12) (ci 2)), o 14 (.slstr (.c (S str_87730c3d)) (some (.t 10)) (some (.t 13))), o 2 (.mov (.t 14))])
  .ret)))⟩

def pf_istrconv_numDigits : PF := ⟨15, [.t 2],
  (.seq (.reg [o 2 (.mov (ci 0))])
  (.seq (.reg [o 4 (.mov (.t 0)), o 5 (.call (cf fn_math_bits_Len64) [(.t 4)]), o 6 (.call (cf fn_istrconv_log10Pow2) [(.t 5)]), o 3 (.mov (.t 6))])
  (.seq (.reg [o 7 (.mov (.t 3)), o 8 (.mov (.t 0)), o 9 (.mov (.t 3)), o 10 (.iaddra 20 1 (.c (.glob g_istrconv_uint64pow10)) (.t 9)), o 11 (.load false 1 (.t 10)), o 12 (.bin .geq (.t 8) (.t 11)), o 13 (.call (cf fn_istrconv_bool2_int) [(.t 12)]), o 14 (.bin .add (.t 7) (.t 13)), o 2 (.mov (.t 14))])
  .ret)))⟩

def l1_istrconv_formatBase10 : PC :=
  (.seq (.seq (.reg [o 19 (.mov (.t 4)), o 20 (.bin .geq (.t 19) (ci 8))])
  (.cond (.t 20) .skip (.exit 0)))
  (.block 1 (.seq (.reg [o 21 (.mov (.t 1)), o 22 (.bin .rem (.t 21) (.c (.int .u64 100000000))), o 23 (.conv .u32 (.t 22)), o 5 (.mov (.t 23))])
    (.seq (.reg [o 24 (.mov (.t 1)), o 25 (.bin .quo (.t 24) (.c (.int .u64 100000000))), o 1 (.mov (.t 25))])
    (.seq (.reg [o 26 (.mov (.t 5)), o 27 (.bin .quo (.t 26) (.c (.int .u32 10000))), o 28 (.mov (.t 5)), o 29 (.bin .rem (.t 28) (.c (.int .u32 10000))), o 6 (.mov (.t 27)), o 7 (.mov (.t 29))])
    (.seq (.reg [o 30 (.mov (.t 7)), o 31 (.bin .quo (.t 30) (.c (.int .u32 100))), o 32 (.bin .mul (.t 31) (.c (.int .u32 2))), o 33 (.mov (.t 7)), o 34 (.bin .rem (.t 33) (.c (.int .u32 100))), o 35 (.bin .mul (.t 34) (.c (.int .u32 2))), o 8 (.mov (.t 32)), o 9 (.mov (.t 35))])
    (.seq (.reg [o 36 (.mov (.t 6)), o 37 (.bin .quo (.t 36) (.c (.int .u32 100))), o 38 (.bin .mul (.t 37) (.c (.int .u32 2))), o 39 (.mov (.t 6)), o 40 (.bin .rem (.t 39) (.c (.int .u32 100))), o 41 (.bin .mul (.t 40) (.c (.int .u32 2))), o 10 (.mov (.t 38)), o 11 (.mov (.t 41))])
    (.seq (.dreg [(o 42 (.mov (.t 0)), []), (o 43 (.mov (.t 4)), []), (o 44 (.bin .sub (.t 43) (ci 1)), []), (o 45 (.mov (.t 0)), []), (o 46 (.mov (.t 4)), []), (o 47 (.bin .sub (.t 46) (ci 2)), []), (o 48 (.mov (.t 9)), []), (o 49 (.bin .add (.t 48) (.c (.int .u32 1))), []), (o 50 (.idxs (.c (S str_87730c3d)) (.t 49)), []), (o 51 (.mov (.t 9)), []), (o 52 (.idxs (.c (S str_87730c3d)) (.t 51)), []), (o 53 (.iaddrs 1 (.t 42) (.t 44)), []), (u (.store 1 (.t 53) (.t 50)), []), (o 54 (.iaddrs 1 (.t 45) (.t 47)), []), (u (.store 1 (.t 54) (.t 52)), [])])
    (.seq (.dreg [(o 55 (.mov (.t 0)), []), (o 56 (.mov (.t 4)), []), (o 57 (.bin .sub (.t 56) (ci 3)), []), (o 58 (.mov (.t 0)), []), (o 59 (.mov (.t 4)), []), (o 60 (.bin .sub (.t 59) (ci 4)), []), (o 61 (.mov (.t 8)), []), (o 62 (.bin .add (.t 61) (.c (.int .u32 1))), []), (o 63 (.idxs (.c (S str_87730c3d)) (.t 62)), []), (o 64 (.mov (.t 8)), []), (o 65 (.idxs (.c (S str_87730c3d)) (.t 64)), []), (o 66 (.iaddrs 1 (.t 55) (.t 57)), []), (u (.store 1 (.t 66) (.t 63)), []), (o 67 (.iaddrs 1 (.t 58) (.t 60)), []), (u (.store 1 (.t 67) (.t 65)), [])])
    (.seq (.dreg [(o 68 (.mov (.t 0)), []), (o 69 (.mov (.t 4)), []), (o 70 (.bin .sub (.t 69) (ci 5)), []), (o 71 (.mov (.t 0)), []), (o 72 (.mov (.t 4)), []), (o 73 (.bin .sub (.t 72) (ci 6)), []), (o 74 (.mov (.t 11)), []), (o 75 (.bin .add (.t 74) (.c (.int .u32 1))), []), (o 76 (.idxs (.c (S str_87730c3d)) (.t 75)), []), (o 77 (.mov (.t 11)), []), (o 78 (.idxs (.c (S str_87730c3d)) (.t 77)), []), (o 79 (.iaddrs 1 (.t 68) (.t 70)), []), (u (.store 1 (.t 79) (.t 76)), []), (o 80 (.iaddrs 1 (.t 71) (.t 73)), []), (u (.store 1 (.t 80) (.t 78)), [])])
    (.seq (.dreg [(o 81 (.mov (.t 0)), []), (o 82 (.mov (.t 4)), []), (o 83 (.bin .sub (.t 82) (ci 7)), []), (o 84 (.mov (.t 0)), []), (o 85 (.mov (.t 4)), []), (o 86 (.bin .sub (.t 85) (ci 8)), []), (o 87 (.mov (.t 10)), []), (o 88 (.bin .add (.t 87) (.c (.int .u32 1))), []), (o 89 (.idxs (.c (S str_87730c3d)) (.t 88)), []), (o 90 (.mov (.t 10)), []), (o 91 (.idxs (.c (S str_87730c3d)) (.t 90)), []), (o 92 (.iaddrs 1 (.t 81) (.t 83)), []), (u (.store 1 (.t 92) (.t 89)), []), (o 93 (.iaddrs 1 (.t 84) (.t 86)), []), (u (.store 1 (.t 93) (.t 91)), [])])
    (.reg [o 94 (.mov (.t 4)), o 95 (.bin .sub (.t 94) (ci 8)), o 4 (.mov (.t 95))]))))))))))))
def pf_istrconv_formatBase10 : PF := ⟨167, [],
  (.seq (.reg [o 17 (.mov (.t 0)), o 18 (.len .sl (.t 17)), o 4 (.mov (.t 18))])
  (.seq (.block 0 (.loop l1_istrconv_formatBase10))
  (.seq (.reg [o 96 (.mov (.t 1)), o 97 (.conv .u32 (.t 96)), o 12 (.mov (.t 97))])
  (.seq (.seq (.reg [o 98 (.mov (.t 4)), o 99 (.bin .geq (.t 98) (ci 4))])
  (.cond (.t 99) (.seq (.reg [o 100 (.mov (.t 12)), o 101 (.bin .rem (.t 100) (.c (.int .u32 10000))), o 13 (.mov (.t 101))])
    (.seq (.reg [o 102 (.mov (.t 12)), o 103 (.bin .quo (.t 102) (.c (.int .u32 10000))), o 12 (.mov (.t 103))])
    (.seq (.reg [o 104 (.mov (.t 13)), o 105 (.bin .quo (.t 104) (.c (.int .u32 100))), o 106 (.bin .mul (.t 105) (.c (.int .u32 2))), o 107 (.mov (.t 13)), o 108 (.bin .rem (.t 107) (.c (.int .u32 100))), o 109 (.bin .mul (.t 108) (.c (.int .u32 2))), o 14 (.mov (.t 106)), o 15 (.mov (.t 109))])
    (.seq (.dreg [(o 110 (.mov (.t 0)), []), (o 111 (.mov (.t 4)), []), (o 112 (.bin .sub (.t 111) (ci 1)), []), (o 113 (.mov (.t 0)), []), (o 114 (.mov (.t 4)), []), (o 115 (.bin .sub (.t 114) (ci 2)), []), (o 116 (.mov (.t 15)), []), (o 117 (.bin .add (.t 116) (.c (.int .u32 1))), []), (o 118 (.idxs (.c (S str_87730c3d)) (.t 117)), []), (o 119 (.mov (.t 15)), []), (o 120 (.idxs (.c (S str_87730c3d)) (.t 119)), []), (o 121 (.iaddrs 1 (.t 110) (.t 112)), []), (u (.store 1 (.t 121) (.t 118)), []), (o 122 (.iaddrs 1 (.t 113) (.t 115)), []), (u (.store 1 (.t 122) (.t 120)), [])])
    (.seq (.dreg [(o 123 (.mov (.t 0)), []), (o 124 (.mov (.t 4)), []), (o 125 (.bin .sub (.t 124) (ci 3)), []), (o 126 (.mov (.t 0)), []), (o 127 (.mov (.t 4)), []), (o 128 (.bin .sub (.t 127) (ci 4)), []), (o 129 (.mov (.t 14)), []), (o 130 (.bin .add (.t 129) (.c (.int .u32 1))), []), (o 131 (.idxs (.c (S str_87730c3d)) (.t 130)), []), (o 132 (.mov (.t 14)), []), (o 133 (.idxs (.c (S str_87730c3d)) (.t 132)), []), (o 134 (.iaddrs 1 (.t 123) (.t 125)), []), (u (.store 1 (.t 134) (.t 131)), []), (o 135 (.iaddrs 1 (.t 126) (.t 128)), []), (u (.store 1 (.t 135) (.t 133)), [])])
    (.reg [o 136 (.mov (.t 4)), o 137 (.bin .sub (.t 136) (ci 4)), o 4 (.mov (.t 137))])))))) .skip))
  (.seq (.seq (.reg [o 138 (.mov (.t 4)), o 139 (.bin .geq (.t 138) (ci 2))])
  (.cond (.t 139) (.seq (.reg [o 140 (.mov (.t 12)), o 141 (.bin .rem (.t 140) (.c (.int .u32 100))), o 142 (.bin .mul (.t 141) (.c (.int .u32 2))), o 16 (.mov (.t 142))])
    (.seq (.reg [o 143 (.mov (.t 12)), o 144 (.bin .quo (.t 143) (.c (.int .u32 100))), o 12 (.mov (.t 144))])
    (.seq (.dreg [(o 145 (.mov (.t 0)), []), (o 146 (.mov (.t 4)), []), (o 147 (.bin .sub (.t 146) (ci 1)), []), (o 148 (.mov (.t 0)), []), (o 149 (.mov (.t 4)), []), (o 150 (.bin .sub (.t 149) (ci 2)), []), (o 151 (.mov (.t 16)), []), (o 152 (.bin .add (.t 151) (.c (.int .u32 1))), []), (o 153 (.idxs (.c (S str_87730c3d)) (.t 152)), []), (o 154 (.mov (.t 16)), []), (o 155 (.idxs (.c (S str_87730c3d)) (.t 154)), []), (o 156 (.iaddrs 1 (.t 145) (.t 147)), []), (u (.store 1 (.t 156) (.t 153)), []), (o 157 (.iaddrs 1 (.t 148) (.t 150)), []), (u (.store 1 (.t 157) (.t 155)), [])])
    (.reg [o 158 (.mov (.t 4)), o 159 (.bin .sub (.t 158) (ci 2)), o 4 (.mov (.t 159))])))) .skip))
  (.seq (.reg [o 160 (.mov (.t 4)), o 161 (.bin .gtr (.t 160) (ci 0))])
  (.cond (.t 161) (.reg [o 162 (.mov (.t 0)), o 163 (.mov (.t 12)), o 164 (.bin .add (.c (.int .u32 48)) (.t 163)), o 165 (.conv .u8 (.t 164)), o 166 (.iaddrs 1 (.t 162) (ci 0)), u (.store 1 (.t 166) (.t 165))]) .skip)))))))⟩

def l2_istrconv_formatBits : PC :=
  (.seq (.seq (.reg [o 66 (.mov (.t 1)), o 67 (.mov (.t 17)), o 68 (.bin .geq (.t 66) (.t 67))])
  (.cond (.t 68) .skip (.exit 2)))
  (.block 3 (.seq (.reg [o 69 (.mov (.t 13)), o 70 (.bin .sub (.t 69) (ci 1)), o 13 (.mov (.t 70))])
    (.seq (.reg [o 71 (.mov (.t 1)), o 72 (.mov (.t 17)), o 73 (.bin .quo (.t 71) (.t 72)), o 18 (.mov (.t 73))])
    (.seq (.reg [o 74 (.mov (.t 13)), o 75 (.mov (.t 1)), o 76 (.mov (.t 18)), o 77 (.mov (.t 17)), o 78 (.bin .mul (.t 76) (.t 77)), o 79 (.bin .sub (.t 75) (.t 78)), o 80 (.idxs (.c (S str_fdb5537d)) (.t 79)), o 81 (.iaddra 65 1 (.t 12) (.t 74)), u (.store 1 (.t 81) (.t 80))])
    (.reg [o 82 (.mov (.t 18)), o 1 (.mov (.t 82))]))))))
def l1_istrconv_formatBits : PC :=
  (.seq (.seq (.reg [o 44 (.mov (.t 1)), o 45 (.mov (.t 15)), o 46 (.bin .geq (.t 44) (.t 45))])
  (.cond (.t 46) .skip (.exit 0)))
  (.block 1 (.seq (.reg [o 47 (.mov (.t 13)), o 48 (.bin .sub (.t 47) (ci 1)), o 13 (.mov (.t 48))])
    (.seq (.reg [o 49 (.mov (.t 13)), o 50 (.mov (.t 1)), o 51 (.mov (.t 16)), o 52 (.bin .and (.t 50) (.t 51)), o 53 (.idxs (.c (S str_fdb5537d)) (.t 52)), o 54 (.iaddra 65 1 (.t 12) (.t 49)), u (.store 1 (.t 54) (.t 53))])
    (.reg [o 55 (.mov (.t 1)), o 56 (.mov (.t 14)), o 57 (.shf .shr (.t 55) (.t 56)), o 1 (.mov (.t 57))])))))
def pf_istrconv_formatBits : PF := ⟨102, [.t 10, .t 11],
  (.seq (.reg [o 10 (.mov (.c .nils)), o 11 (.mov (.c (S [])))])
  (.seq (.seq (.reg [o 19 (.mov (.t 2)), o 20 (.bin .lss (.t 19) (ci 2)), o 21 (.mov (.t 20)), gf 21 (some 22) (.mov (.t 2)), gf 21 (some 23) (.eq .int (.t 22) (ci 10)), o 24 (.pick (.t 21) (.c (.bool true)) (.t 23)), o 25 (.mov (.t 24)), gf 25 (some 26) (.mov (.t 2)), gf 25 (some 27) (.bin .gtr (.t 26) (ci 36)), o 28 (.pick (.t 25) (.c (.bool true)) (.t 27))])
  (.cond (.t 28) (.reg [o 29 (.mki ty_string (.c (S str_e8a41dda))), u (.panic (.t 29))]) .skip))
  (.seq (.reg [o 12 (.alloc (reps 65 (.int .u8 0)) none)])
  (.seq (.reg [o 13 (.mov (ci 65))])
  (.seq (.seq (.reg [o 30 (.mov (.t 3))])
  (.cond (.t 30) (.reg [o 31 (.mov (.t 1)), o 32 (.un .neg (.t 31)), o 1 (.mov (.t 32))]) .skip))
  (.seq (.seq (.reg [o 33 (.mov (.t 2)), o 34 (.call (cf fn_istrconv_isPowerOfTwo) [(.t 33)])])
  (.cond (.t 34) (.seq (.reg [o 35 (.mov (.t 2)), o 36 (.conv .u64 (.t 35)), o 37 (.call (cf fn_math_bits_TrailingZeros) [(.t 36)]), o 38 (.conv .u64 (.t 37)), o 14 (.mov (.t 38))])
    (.seq (.reg [o 39 (.mov (.t 2)), o 40 (.conv .u64 (.t 39)), o 15 (.mov (.t 40))])
    (.seq (.reg [o 41 (.mov (.t 2)), o 42 (.conv .u64 (.t 41)), o 43 (.bin .sub (.t 42) (.c (.int .u64 1))), o 16 (.mov (.t 43))])
    (.seq (.block 0 (.loop l1_istrconv_formatBits))
    (.seq (.reg [o 58 (.mov (.t 13)), o 59 (.bin .sub (.t 58) (ci 1)), o 13 (.mov (.t 59))])
    (.reg [o 60 (.mov (.t 13)), o 61 (.mov (.t 1)), o 62 (.idxs (.c (S str_fdb5537d)) (.t 61)), o 63 (.iaddra 65 1 (.t 12) (.t 60)), u (.store 1 (.t 63) (.t 62))])))))) (.seq (.reg [o 64 (.mov (.t 2)), o 65 (.conv .u64 (.t 64)), o 17 (.mov (.t 65))])
    (.seq (.block 2 (.loop l2_istrconv_formatBits))
    (.seq (.reg [o 83 (.mov (.t 13)), o 84 (.bin .sub (.t 83) (ci 1)), o 13 (.mov (.t 84))])
    (.reg [o 85 (.mov (.t 13)), o 86 (.mov (.t 1)), o 87 (.idxs (.c (S str_fdb5537d)) (.t 86)), o 88 (.iaddra 65 1 (.t 12) (.t 85)), u (.store 1 (.t 88) (.t 87))]))))))
  (.seq (.seq (.reg [o 89 (.mov (.t 3))])
  (.cond (.t 89) (.seq (.reg [o 90 (.mov (.t 13)), o 91 (.bin .sub (.t 90) (ci 1)), o 13 (.mov (.t 91))])
    (.reg [o 92 (.mov (.t 13)), o 93 (.iaddra 65 1 (.t 12) (.t 92)), u (.store 1 (.t 93) (.c (.int .u8 45)))])) .skip))
  (.seq (.seq (.reg [o 94 (.mov (.t 4))])
  (.cond (.t 94) (.seq (.reg [o 95 (.mov (.t 0)), o 96 (.mov (.t 13)), o 97 (.slarr 65 1 (.t 12) (some (.t 96)) none), o 98 (.append ty_uint8 1 1 (.t 95) (.t 97)), o 10 (.mov (.t 98))])
    .ret) .skip))
  (.seq (.reg [o 99 (.mov (.t 13)), o 100 (.slarr 65 1 (.t 12) (some (.t 99)) none), o 101 (.b2s (.t 100)), o 11 (.mov (.t 101))])
  .ret)))))))))⟩

def l1_unicode_utf8_RuneCountInString : PC :=
  (.seq (.reg [o 5 (.nxt (.t 4)), o 6 (.ext (.t 5) 0)])
  (.seq (.cond (.t 6) .skip (.exit 0))
  (.block 1 (.reg [o 7 (.mov (.t 2)), o 8 (.bin .add (.t 7) (ci 1)), o 2 (.mov (.t 8))]))))
def pf_unicode_utf8_RuneCountInString : PF := ⟨10, [.t 2],
  (.seq (.reg [o 2 (.mov (ci 0))])
  (.seq (.seq (.reg [o 3 (.mov (.t 0)), o 4 (.rng (.t 3))])
  (.block 0 (.loop l1_unicode_utf8_RuneCountInString)))
  (.seq (.reg [o 9 (.mov (.t 2)), o 2 (.mov (.t 9))])
  .ret)))⟩

def pf_unicode_utf8_DecodeRuneInString : PF := ⟨19, [.t 2, .t 3],
  (.seq (.reg [o 2 (.mov (.c (.int .i32 0))), o 3 (.mov (ci 0))])
  (.seq (.seq (.reg [o 4 (.mov (.t 0)), o 5 (.ne .str (.t 4) (.c (S []))), o 6 (.mov (.t 5)), gt 6 (some 7) (.mov (.t 0)), gt 6 (some 8) (.idxs (.t 7) (ci 0)), gt 6 (some 9) (.bin .lss (.t 8) (.c (.int .u8 128))), o 10 (.pick (.t 6) (.t 9) (.c (.bool false)))])
  (.cond (.t 10) (.seq (.reg [o 11 (.mov (.t 0)), o 12 (.idxs (.t 11) (ci 0)), o 13 (.conv .i32 (.t 12)), o 2 (.mov (.t 13)), o 3 (.mov (ci 1))])
    .ret) (.reg [o 15 (.mov (.t 0)), o 16 (.call (cf fn_unicode_utf8_decodeRuneInStringSlow) [(.t 15)]), o 14 (.mov (.t 16)), o 17 (.ext (.t 14) 0), o 18 (.ext (.t 14) 1), o 2 (.mov (.t 17)), o 3 (.mov (.t 18))])))
  .ret))⟩

def l1_istringslite_Index : PC :=
  (.seq (.seq (.reg [o 57 (.mov (.t 8)), o 58 (.mov (.t 9)), o 59 (.bin .lss (.t 57) (.t 58))])
  (.cond (.t 59) .skip (.exit 1)))
  (.block 2 (.seq (.seq (.reg [o 60 (.mov (.t 0)), o 61 (.mov (.t 8)), o 62 (.idxs (.t 60) (.t 61)), o 63 (.mov (.t 6)), o 64 (.ne .int (.t 62) (.t 63))])
    (.cond (.t 64) (.seq (.reg [o 65 (.mov (.t 0)), o 66 (.mov (.t 8)), o 67 (.bin .add (.t 66) (ci 1)), o 68 (.mov (.t 9)), o 69 (.slstr (.t 65) (some (.t 67)) (some (.t 68))), o 70 (.mov (.t 6)), o 71 (.call (cf fn_istringslite_IndexByte) [(.t 69), (.t 70)]), o 11 (.mov (.t 71))])
      (.seq (.seq (.reg [o 72 (.mov (.t 11)), o 73 (.bin .lss (.t 72) (ci 0))])
      (.cond (.t 73) (.seq (.reg [o 4 (.mov (ci (-1)))])
        .ret) .skip))
      (.reg [o 74 (.mov (.t 8)), o 75 (.mov (.t 11)), o 76 (.bin .add (.t 75) (ci 1)), o 77 (.bin .add (.t 74) (.t 76)), o 8 (.mov (.t 77))]))) .skip))
    (.seq (.seq (.reg [o 78 (.mov (.t 0)), o 79 (.mov (.t 8)), o 80 (.bin .add (.t 79) (ci 1)), o 81 (.idxs (.t 78) (.t 80)), o 82 (.mov (.t 7)), o 83 (.eq .int (.t 81) (.t 82)), o 84 (.mov (.t 83)), gt 84 (some 85) (.mov (.t 0)), gt 84 (some 86) (.mov (.t 8)), gt 84 (some 87) (.mov (.t 8)), gt 84 (some 88) (.mov (.t 5)), gt 84 (some 89) (.bin .add (.t 87) (.t 88)), gt 84 (some 90) (.slstr (.t 85) (some (.t 86)) (some (.t 89))), gt 84 (some 91) (.mov (.t 1)), gt 84 (some 92) (.eq .str (.t 90) (.t 91)), o 93 (.pick (.t 84) (.t 92) (.c (.bool false)))])
    (.cond (.t 93) (.seq (.reg [o 94 (.mov (.t 8)), o 4 (.mov (.t 94))])
      .ret) .skip))
    (.seq (.reg [o 95 (.mov (.t 8)), o 96 (.bin .add (.t 95) (ci 1)), o 8 (.mov (.t 96))])
    (.seq (.reg [o 97 (.mov (.t 10)), o 98 (.bin .add (.t 97) (ci 1)), o 10 (.mov (.t 98))])
    (.seq (.reg [o 99 (.mov (.t 5)), o 100 (.load false 1 (.c (.glob g_ibytealg_MaxLen))), o 101 (.bin .leq (.t 99) (.t 100)), o 102 (.mov (.t 101)), gt 102 (some 103) (.mov (.t 10)), gt 102 (some 104) (.mov (.t 8)), gt 102 (some 105) (.call (cf fn_ibytealg_Cutover) [(.t 104)]), gt 102 (some 106) (.bin .gtr (.t 103) (.t 105)), o 107 (.pick (.t 102) (.t 106) (.c (.bool false)))])
    (.cond (.t 107) (.seq (.reg [o 108 (.mov (.t 0)), o 109 (.mov (.t 8)), o 110 (.slstr (.t 108) (some (.t 109)) none), o 111 (.mov (.t 1)), o 112 (.call (cf fn_ibytealg_IndexString) [(.t 110), (.t 111)]), o 12 (.mov (.t 112))])
      (.seq (.seq (.reg [o 113 (.mov (.t 12)), o 114 (.bin .geq (.t 113) (ci 0))])
      (.cond (.t 114) (.seq (.reg [o 115 (.mov (.t 12)), o 116 (.mov (.t 8)), o 117 (.bin .add (.t 115) (.t 116)), o 4 (.mov (.t 117))])
        .ret) .skip))
      (.seq (.reg [o 4 (.mov (ci (-1)))])
      .ret))) (.seq (.reg [o 118 (.mov (.t 5)), o 119 (.load false 1 (.c (.glob g_ibytealg_MaxLen))), o 120 (.bin .gtr (.t 118) (.t 119)), o 121 (.mov (.t 120)), gt 121 (some 122) (.mov (.t 10)), gt 121 (some 123) (.mov (.t 8)), gt 121 (some 124) (.shf .shr (.t 123) (.c (.int .u64 4))), gt 121 (some 125) (.bin .add (ci 4) (.t 124)), gt 121 (some 126) (.bin .geq (.t 122) (.t 125)), o 127 (.pick (.t 121) (.t 126) (.c (.bool false))), o 128 (.mov (.t 127)), gt 128 (some 129) (.mov (.t 8)), gt 128 (some 130) (.mov (.t 9)), gt 128 (some 131) (.bin .lss (.t 129) (.t 130)), o 132 (.pick (.t 128) (.t 131) (.c (.bool false)))])
      (.cond (.t 132) (.seq (.reg [o 133 (.mov (.t 0)), o 134 (.mov (.t 8)), o 135 (.slstr (.t 133) (some (.t 134)) none), o 136 (.mov (.t 1)), o 137 (.call (cf fn_ibytealg_IndexRabinKarp_string) [(.t 135), (.t 136)]), o 13 (.mov (.t 137))])
        (.seq (.seq (.reg [o 138 (.mov (.t 13)), o 139 (.bin .lss (.t 138) (ci 0))])
        (.cond (.t 139) (.seq (.reg [o 4 (.mov (ci (-1)))])
          .ret) .skip))
        (.seq (.reg [o 140 (.mov (.t 8)), o 141 (.mov (.t 13)), o 142 (.bin .add (.t 140) (.t 141)), o 4 (.mov (.t 142))])
        .ret))) .skip))))))))))
def pf_istringslite_Index : PF := ⟨143, [.t 4],
  (.seq (.reg [o 4 (.mov (ci 0))])
  (.seq (.reg [o 14 (.mov (.t 1)), o 15 (.len .str (.t 14)), o 5 (.mov (.t 15))])
  (.seq (.block 0 (.seq (.reg [o 17 (.mov (.t 5)), o 18 (.eq .int (.t 17) (ci 0)), o 19 (.mov (.t 18)), gf 19 (some 20) (.mov (.t 1)), gf 19 (some 21) (.mov (.t 0)), gf 19 (some 22) (.eq .str (.t 20) (.t 21)), o 23 (.pick (.t 19) (.c (.bool true)) (.t 22)), o 16 (.mov (.t 23))])
    (.cond (.t 16) (.seq (.reg [o 4 (.mov (ci 0))])
      .ret) (.seq (.reg [o 25 (.mov (.t 5)), o 26 (.eq .int (.t 25) (ci 1)), o 24 (.mov (.t 26))])
      (.cond (.t 24) (.seq (.reg [o 27 (.mov (.t 0)), o 28 (.mov (.t 1)), o 29 (.idxs (.t 28) (ci 0)), o 30 (.call (cf fn_istringslite_IndexByte) [(.t 27), (.t 29)]), o 4 (.mov (.t 30))])
        .ret) (.seq (.reg [o 32 (.mov (.t 5)), o 33 (.mov (.t 0)), o 34 (.len .str (.t 33)), o 35 (.bin .geq (.t 32) (.t 34)), o 31 (.mov (.t 35))])
        (.cond (.t 31) (.seq (.reg [o 4 (.mov (ci (-1)))])
          .ret) (.seq (.reg [o 37 (.mov (.t 5)), o 38 (.load false 1 (.c (.glob g_ibytealg_MaxLen))), o 39 (.bin .leq (.t 37) (.t 38)), o 40 (.mov (.t 39)), gt 40 (some 41) (.mov (.t 0)), gt 40 (some 42) (.len .str (.t 41)), gt 40 (some 43) (.bin .leq (.t 42) (ci 64)), o 44 (.pick (.t 40) (.t 43) (.c (.bool false))), o 36 (.mov (.t 44))])
          (.cond (.t 36) (.seq (.reg [o 45 (.mov (.t 0)), o 46 (.mov (.t 1)), o 47 (.call (cf fn_ibytealg_IndexString) [(.t 45), (.t 46)]), o 4 (.mov (.t 47))])
            .ret) .skip)))))))))
  (.seq (.reg [o 48 (.mov (.t 1)), o 49 (.idxs (.t 48) (ci 0)), o 6 (.mov (.t 49))])
  (.seq (.reg [o 50 (.mov (.t 1)), o 51 (.idxs (.t 50) (ci 1)), o 7 (.mov (.t 51))])
  (.seq (.reg [o 8 (.mov (ci 0))])
  (.seq (.reg [o 52 (.mov (.t 0)), o 53 (.len .str (.t 52)), o 54 (.mov (.t 5)), o 55 (.bin .sub (.t 53) (.t 54)), o 56 (.bin .add (.t 55) (ci 1)), o 9 (.mov (.t 56))])
  (.seq (.reg [o 10 (.mov (ci 0))])
  (.seq (.block 1 (.loop l1_istringslite_Index))
  (.seq (.reg [o 4 (.mov (ci (-1)))])
  .ret))))))))))⟩

def l1_strings_trimLeftByte : PC :=
  (.seq (.seq (.reg [o 5 (.mov (.t 0)), o 6 (.len .str (.t 5)), o 7 (.bin .gtr (.t 6) (ci 0)), o 8 (.mov (.t 7)), gt 8 (some 9) (.mov (.t 0)), gt 8 (some 10) (.idxs (.t 9) (ci 0)), gt 8 (some 11) (.mov (.t 1)), gt 8 (some 12) (.eq .int (.t 10) (.t 11)), o 13 (.pick (.t 8) (.t 12) (.c (.bool false)))])
  (.cond (.t 13) .skip (.exit 0)))
  (.block 1 (.reg [o 14 (.mov (.t 0)), o 15 (.slstr (.t 14) (some (ci 1)) none), o 0 (.mov (.t 15))])))
def pf_strings_trimLeftByte : PF := ⟨17, [.t 4],
  (.seq (.reg [o 4 (.mov (.c (S [])))])
  (.seq (.block 0 (.loop l1_strings_trimLeftByte))
  (.seq (.reg [o 16 (.mov (.t 0)), o 4 (.mov (.t 16))])
  .ret)))⟩

def l1_strings_trimRightByte : PC :=
  (.seq (.seq (.reg [o 5 (.mov (.t 0)), o 6 (.len .str (.t 5)), o 7 (.bin .gtr (.t 6) (ci 0)), o 8 (.mov (.t 7)), gt 8 (some 9) (.mov (.t 0)), gt 8 (some 10) (.mov (.t 0)), gt 8 (some 11) (.len .str (.t 10)), gt 8 (some 12) (.bin .sub (.t 11) (ci 1)), gt 8 (some 13) (.idxs (.t 9) (.t 12)), gt 8 (some 14) (.mov (.t 1)), gt 8 (some 15) (.eq .int (.t 13) (.t 14)), o 16 (.pick (.t 8) (.t 15) (.c (.bool false)))])
  (.cond (.t 16) .skip (.exit 0)))
  (.block 1 (.reg [o 17 (.mov (.t 0)), o 18 (.mov (.t 0)), o 19 (.len .str (.t 18)), o 20 (.bin .sub (.t 19) (ci 1)), o 21 (.slstr (.t 17) none (some (.t 20))), o 0 (.mov (.t 21))])))
def pf_strings_trimRightByte : PF := ⟨23, [.t 4],
  (.seq (.reg [o 4 (.mov (.c (S [])))])
  (.seq (.block 0 (.loop l1_strings_trimRightByte))
  (.seq (.reg [o 22 (.mov (.t 0)), o 4 (.mov (.t 22))])
  .ret)))⟩

def l1_strings_makeASCIISet : PC :=
  (.seq (.seq (.reg [o 6 (.mov (.t 4)), o 7 (.mov (.t 0)), o 8 (.len .str (.t 7)), o 9 (.bin .lss (.t 6) (.t 8))])
  (.cond (.t 9) .skip (.exit 0)))
  (.seq (.block 1 (.seq (.reg [o 12 (.mov (.t 0)), o 13 (.mov (.t 4)), o 14 (.idxs (.t 12) (.t 13)), o 5 (.mov (.t 14))])
    (.seq (.seq (.reg [o 15 (.mov (.t 5)), o 16 (.bin .geq (.t 15) (.c (.int .u8 128)))])
    (.cond (.t 16) (.seq (.reg [o 17 (.load true 256 (.t 2)), u (.store 256 (.t 2) (.t 17)), o 3 (.mov (.c (.bool false)))])
      .ret) .skip))
    (.reg [o 18 (.mov (.t 5)), o 19 (.iaddra 256 1 (.t 2) (.t 18)), u (.store 1 (.t 19) (.c (.bool true)))]))))
  (.reg [o 10 (.mov (.t 4)), o 11 (.bin .add (.t 10) (ci 1)), o 4 (.mov (.t 11))])))
def pf_strings_makeASCIISet : PF := ⟨21, [.cell 2 true 256, .t 3],
  (.seq (.reg [o 2 (.alloc (reps 256 (.bool false)) none), o 3 (.mov (.c (.bool false)))])
  (.seq (.seq (.reg [o 4 (.mov (ci 0))])
  (.block 0 (.loop l1_strings_makeASCIISet)))
  (.seq (.reg [o 20 (.load true 256 (.t 2)), u (.store 256 (.t 2) (.t 20)), o 3 (.mov (.c (.bool true)))])
  .ret)))⟩

def l1_strings_trimLeftASCII : PC :=
  (.seq (.seq (.reg [o 5 (.mov (.t 0)), o 6 (.len .str (.t 5)), o 7 (.bin .gtr (.t 6) (ci 0))])
  (.cond (.t 7) .skip (.exit 0)))
  (.block 1 (.seq (.seq (.reg [o 8 (.mov (.t 1)), o 9 (.mov (.t 0)), o 10 (.idxs (.t 9) (ci 0)), o 11 (.call (cf fn_Pstrings_asciiSet_contains) [(.t 8), (.t 10)]), o 12 (.un .not (.t 11))])
    (.cond (.t 12) (.exit 0) .skip))
    (.reg [o 13 (.mov (.t 0)), o 14 (.slstr (.t 13) (some (ci 1)) none), o 0 (.mov (.t 14))]))))
def pf_strings_trimLeftASCII : PF := ⟨16, [.t 4],
  (.seq (.reg [o 4 (.mov (.c (S [])))])
  (.seq (.block 0 (.loop l1_strings_trimLeftASCII))
  (.seq (.reg [o 15 (.mov (.t 0)), o 4 (.mov (.t 15))])
  .ret)))⟩

def l1_strings_trimRightASCII : PC :=
  (.seq (.seq (.reg [o 5 (.mov (.t 0)), o 6 (.len .str (.t 5)), o 7 (.bin .gtr (.t 6) (ci 0))])
  (.cond (.t 7) .skip (.exit 0)))
  (.block 1 (.seq (.seq (.reg [o 8 (.mov (.t 1)), o 9 (.mov (.t 0)), o 10 (.mov (.t 0)), o 11 (.len .str (.t 10)), o 12 (.bin .sub (.t 11) (ci 1)), o 13 (.idxs (.t 9) (.t 12)), o 14 (.call (cf fn_Pstrings_asciiSet_contains) [(.t 8), (.t 13)]), o 15 (.un .not (.t 14))])
    (.cond (.t 15) (.exit 0) .skip))
    (.reg [o 16 (.mov (.t 0)), o 17 (.mov (.t 0)), o 18 (.len .str (.t 17)), o 19 (.bin .sub (.t 18) (ci 1)), o 20 (.slstr (.t 16) none (some (.t 19))), o 0 (.mov (.t 20))]))))
def pf_strings_trimRightASCII : PF := ⟨22, [.t 4],
  (.seq (.reg [o 4 (.mov (.c (S [])))])
  (.seq (.block 0 (.loop l1_strings_trimRightASCII))
  (.seq (.reg [o 21 (.mov (.t 0)), o 4 (.mov (.t 21))])
  .ret)))⟩

def l1_strings_trimLeftUnicode : PC :=
  (.seq (.seq (.reg [o 7 (.mov (.t 0)), o 8 (.len .str (.t 7)), o 9 (.bin .gtr (.t 8) (ci 0))])
  (.cond (.t 9) .skip (.exit 0)))
  (.block 1 (.seq (.reg [o 11 (.mov (.t 0)), o 12 (.call (cf fn_unicode_utf8_DecodeRuneInString) [(.t 11)]), o 10 (.mov (.t 12)), o 13 (.ext (.t 10) 0), o 14 (.ext (.t 10) 1), o 5 (.mov (.t 13)), o 6 (.mov (.t 14))])
    (.seq (.seq (.reg [o 15 (.mov (.t 1)), o 16 (.mov (.t 5)), o 17 (.call (cf fn_strings_ContainsRune) [(.t 15), (.t 16)]), o 18 (.un .not (.t 17))])
    (.cond (.t 18) (.exit 0) .skip))
    (.reg [o 19 (.mov (.t 0)), o 20 (.mov (.t 6)), o 21 (.slstr (.t 19) (some (.t 20)) none), o 0 (.mov (.t 21))])))))
def pf_strings_trimLeftUnicode : PF := ⟨23, [.t 4],
  (.seq (.reg [o 4 (.mov (.c (S [])))])
  (.seq (.block 0 (.loop l1_strings_trimLeftUnicode))
  (.seq (.reg [o 22 (.mov (.t 0)), o 4 (.mov (.t 22))])
  .ret)))⟩

def l1_strings_trimRightUnicode : PC :=
  (.seq (.seq (.reg [o 7 (.mov (.t 0)), o 8 (.len .str (.t 7)), o 9 (.bin .gtr (.t 8) (ci 0))])
  (.cond (.t 9) .skip (.exit 0)))
  (.block 1 (.seq (.reg [o 10 (.mov (.t 0)), o 11 (.mov (.t 0)), o 12 (.len .str (.t 11)), o 13 (.bin .sub (.t 12) (ci 1)), o 14 (.idxs (.t 10) (.t 13)), o 15 (.conv .i32 (.t 14)), o 5 (.mov (.t 15)), o 6 (.mov (ci 1))])
    (.seq (.seq (.reg [o 16 (.mov (.t 5)), o 17 (.bin .geq (.t 16) (.c (.int .i32 128)))])
    (.cond (.t 17) (.reg [o 19 (.mov (.t 0)), o 20 (.call (cf fn_unicode_utf8_DecodeLastRuneInString) [(.t 19)]), o 18 (.mov (.t 20)), o 21 (.ext (.t 18) 0), o 22 (.ext (.t 18) 1), o 5 (.mov (.t 21)), o 6 (.mov (.t 22))]) .skip))
    (.seq (.seq (.reg [o 23 (.mov (.t 1)), o 24 (.mov (.t 5)), o 25 (.call (cf fn_strings_ContainsRune) [(.t 23), (.t 24)]), o 26 (.un .not (.t 25))])
    (.cond (.t 26) (.exit 0) .skip))
    (.reg [o 27 (.mov (.t 0)), o 28 (.mov (.t 0)), o 29 (.len .str (.t 28)), o 30 (.mov (.t 6)), o 31 (.bin .sub (.t 29) (.t 30)), o 32 (.slstr (.t 27) none (some (.t 31))), o 0 (.mov (.t 32))]))))))
def pf_strings_trimRightUnicode : PF := ⟨34, [.t 4],
  (.seq (.reg [o 4 (.mov (.c (S [])))])
  (.seq (.block 0 (.loop l1_strings_trimRightUnicode))
  (.seq (.reg [o 33 (.mov (.t 0)), o 4 (.mov (.t 33))])
  .ret)))⟩

def pf_strconv_ParseUint : PF := ⟨26, [.t 6, .t 7],
  (.seq (.reg [o 6 (.mov (.c (.int .u64 0))), o 7 (.mov (.c .nili))])
  (.seq (.reg [o 11 (.mov (.t 0)), o 12 (.mov (.t 1)), o 13 (.mov (.t 2)), o 14 (.call (cf fn_istrconv_ParseUint) [(.t 11), (.t 12), (.t 13)]), o 10 (.mov (.t 14)), o 15 (.ext (.t 10) 0), o 16 (.ext (.t 10) 1), o 8 (.mov (.t 15)), o 9 (.mov (.t 16))])
  (.seq (.seq (.reg [o 17 (.mov (.t 9)), o 18 (.ne .ifc (.t 17) (.c .nili))])
  (.cond (.t 18) (.seq (.reg [o 19 (.mov (.t 8)), o 20 (.mov (.t 0)), o 21 (.mov (.t 1)), o 22 (.mov (.t 2)), o 23 (.mov (.t 9)), o 24 (.call (cf fn_strconv_toError) [(.c (S [80, 97, 114, 115, 101, 85, 105, 110, 116])), (.t 20), (.t 21), (.t 22), (.t 23)]), o 6 (.mov (.t 19)), o 7 (.mov (.t 24))])
    .ret) .skip))
  (.seq (.reg [o 25 (.mov (.t 8)), o 6 (.mov (.t 25)), o 7 (.mov (.c .nili))])
  .ret))))⟩

def pf_strconv_FormatUint : PF := ⟨8, [.t 4],
  (.seq (.reg [o 4 (.mov (.c (S [])))])
  (.seq (.reg [o 5 (.mov (.t 0)), o 6 (.mov (.t 1)), o 7 (.call (cf fn_istrconv_FormatUint) [(.t 5), (.t 6)]), o 4 (.mov (.t 7))])
  .ret))⟩

def pf_istrconv_log10Pow2 : PF := ⟨6, [.t 2],
  (.seq (.reg [o 2 (.mov (ci 0))])
  (.seq (.reg [o 3 (.mov (.t 0)), o 4 (.bin .mul (.t 3) (ci 78913)), o 5 (.shf .shr (.t 4) (.c (.int .u64 18))), o 2 (.mov (.t 5))])
  .ret))⟩

def pf_math_bits_Len64 : PF := ⟨25, [.t 2],
  (.seq (.reg [o 2 (.mov (ci 0))])
  (.seq (.seq (.reg [o 3 (.mov (.t 0)), o 4 (.bin .geq (.t 3) (.c (.int .u64 4294967296)))])
  (.cond (.t 4) (.seq (.reg [o 5 (.mov (.t 0)), o 6 (.shf .shr (.t 5) (.c (.int .u64 32))), o 0 (.mov (.t 6))])
    (.reg [o 2 (.mov (ci 32))])) .skip))
  (.seq (.seq (.reg [o 7 (.mov (.t 0)), o 8 (.bin .geq (.t 7) (.c (.int .u64 65536)))])
  (.cond (.t 8) (.seq (.reg [o 9 (.mov (.t 0)), o 10 (.shf .shr (.t 9) (.c (.int .u64 16))), o 0 (.mov (.t 10))])
    (.reg [o 11 (.mov (.t 2)), o 12 (.bin .add (.t 11) (ci 16)), o 2 (.mov (.t 12))])) .skip))
  (.seq (.seq (.reg [o 13 (.mov (.t 0)), o 14 (.bin .geq (.t 13) (.c (.int .u64 256)))])
  (.cond (.t 14) (.seq (.reg [o 15 (.mov (.t 0)), o 16 (.shf .shr (.t 15) (.c (.int .u64 8))), o 0 (.mov (.t 16))])
    (.reg [o 17 (.mov (.t 2)), o 18 (.bin .add (.t 17) (ci 8)), o 2 (.mov (.t 18))])) .skip))
  (.seq (.reg [o 19 (.mov (.t 2)), o 20 (.mov (.t 0)), o 21 (.conv .u8 (.t 20)), o 22 (.idxs (.c (S str_11c1601c)) (.t 21)), o 23 (.conv .i64 (.t 22)), o 24 (.bin .add (.t 19) (.t 23)), o 2 (.mov (.t 24))])
  .ret)))))⟩

def pf_istrconv_bool2_int : PF := ⟨4, [.t 2],
  (.seq (.reg [o 2 (.mov (ci 0))])
  (.seq (.seq (.reg [o 3 (.mov (.t 0))])
  (.cond (.t 3) (.seq (.reg [o 2 (.mov (ci 1))])
    .ret) .skip))
  (.seq (.reg [o 2 (.mov (ci 0))])
  .ret)))⟩

def pf_istrconv_isPowerOfTwo : PF := ⟨8, [.t 2],
  (.seq (.reg [o 2 (.mov (.c (.bool false)))])
  (.seq (.reg [o 3 (.mov (.t 0)), o 4 (.mov (.t 0)), o 5 (.bin .sub (.t 4) (ci 1)), o 6 (.bin .and (.t 3) (.t 5)), o 7 (.eq .int (.t 6) (ci 0)), o 2 (.mov (.t 7))])
  .ret))⟩

def pf_math_bits_TrailingZeros : PF := ⟨8, [.t 2],
  (.seq (.reg [o 2 (.mov (ci 0))])
  (.seq (.cond (.c (.bool false)) (.seq (.reg [o 3 (.mov (.t 0)), o 4 (.conv .u32 (.t 3)), o 5 (.call (cf fn_math_bits_TrailingZeros32) [(.t 4)]), o 2 (.mov (.t 5))])
    .ret) .skip)
  (.seq (.reg [o 6 (.mov (.t 0)), o 7 (.call (cf fn_math_bits_TrailingZeros64) [(.t 6)]), o 2 (.mov (.t 7))])
  .ret)))⟩

def pf_unicode_utf8_decodeRuneInStringSlow : PF := ⟨117, [.t 2, .t 3],
  (.seq (.reg [o 2 (.mov (.c (.int .i32 0))), o 3 (.mov (ci 0))])
  (.seq (.reg [o 13 (.mov (.t 0)), o 14 (.len .str (.t 13)), o 4 (.mov (.t 14))])
  (.seq (.seq (.reg [o 15 (.mov (.t 4)), o 16 (.bin .lss (.t 15) (ci 1))])
  (.cond (.t 16) (.seq (.reg [o 2 (.mov (.c (.int .i32 65533))), o 3 (.mov (ci 0))])
    .ret) .skip))
  (.seq (.reg [o 17 (.mov (.t 0)), o 18 (.idxs (.t 17) (ci 0)), o 5 (.mov (.t 18))])
  (.seq (.reg [o 19 (.mov (.t 5)), o 20 (.iaddra 256 1 (.c (.glob g_unicode_utf8_first)) (.t 19)), o 21 (.load false 1 (.t 20)), o 6 (.mov (.t 21))])
  (.seq (.seq (.reg [o 22 (.mov (.t 6)), o 23 (.bin .geq (.t 22) (.c (.int .u8 240)))])
  (.cond (.t 23) (.seq (.reg [o 24 (.mov (.t 6)), o 25 (.conv .i32 (.t 24)), o 26 (.shf .shl (.t 25) (.c (.int .u64 31))), o 27 (.shf .shr (.t 26) (.c (.int .u64 31))), o 7 (.mov (.t 27))])
    (.seq (.reg [o 28 (.mov (.t 0)), o 29 (.idxs (.t 28) (ci 0)), o 30 (.conv .i32 (.t 29)), o 31 (.mov (.t 7)), o 32 (.bin .andNot (.t 30) (.t 31)), o 33 (.mov (.t 7)), o 34 (.bin .and (.c (.int .i32 65533)) (.t 33)), o 35 (.bin .or (.t 32) (.t 34)), o 2 (.mov (.t 35)), o 3 (.mov (ci 1))])
    .ret)) .skip))
  (.seq (.reg [o 36 (.mov (.t 6)), o 37 (.bin .and (.t 36) (.c (.int .u8 7))), o 38 (.conv .i64 (.t 37)), o 8 (.mov (.t 38))])
  (.seq (.reg [o 39 (.mov (.t 6)), o 40 (.shf .shr (.t 39) (.c (.int .u64 4))), o 41 (.iaddra 16 2 (.c (.glob g_unicode_utf8_acceptRanges)) (.t 40)), o 42 (.load true 2 (.t 41)), o 9 (.alloc [(.int .u8 0), (.int .u8 0)] none), u (.store 2 (.t 9) (.t 42))])
  (.seq (.seq (.reg [o 43 (.mov (.t 4)), o 44 (.mov (.t 8)), o 45 (.bin .lss (.t 43) (.t 44))])
  (.cond (.t 45) (.seq (.reg [o 2 (.mov (.c (.int .i32 65533))), o 3 (.mov (ci 1))])
    .ret) .skip))
  (.seq (.reg [o 46 (.mov (.t 0)), o 47 (.idxs (.t 46) (ci 1)), o 10 (.mov (.t 47))])
  (.seq (.seq (.reg [o 48 (.mov (.t 10)), o 49 (.faddr 0 (.t 9)), o 50 (.load false 1 (.t 49)), o 51 (.bin .lss (.t 48) (.t 50)), o 52 (.mov (.t 51)), gf 52 (some 53) (.faddr 1 (.t 9)), gf 52 (some 54) (.load false 1 (.t 53)), gf 52 (some 55) (.mov (.t 10)), gf 52 (some 56) (.bin .lss (.t 54) (.t 55)), o 57 (.pick (.t 52) (.c (.bool true)) (.t 56))])
  (.cond (.t 57) (.seq (.reg [o 2 (.mov (.c (.int .i32 65533))), o 3 (.mov (ci 1))])
    .ret) .skip))
  (.seq (.seq (.reg [o 58 (.mov (.t 8)), o 59 (.bin .leq (.t 58) (ci 2))])
  (.cond (.t 59) (.seq (.reg [o 60 (.mov (.t 5)), o 61 (.bin .and (.t 60) (.c (.int .u8 31))), o 62 (.conv .i32 (.t 61)), o 63 (.shf .shl (.t 62) (.c (.int .u64 6))), o 64 (.mov (.t 10)), o 65 (.bin .and (.t 64) (.c (.int .u8 63))), o 66 (.conv .i32 (.t 65)), o 67 (.bin .or (.t 63) (.t 66)), o 2 (.mov (.t 67)), o 3 (.mov (ci 2))])
    .ret) .skip))
  (.seq (.reg [o 68 (.mov (.t 0)), o 69 (.idxs (.t 68) (ci 2)), o 11 (.mov (.t 69))])
  (.seq (.seq (.reg [o 70 (.mov (.t 11)), o 71 (.bin .lss (.t 70) (.c (.int .u8 128))), o 72 (.mov (.t 71)), gf 72 (some 73) (.mov (.t 11)), gf 72 (some 74) (.bin .lss (.c (.int .u8 191)) (.t 73)), o 75 (.pick (.t 72) (.c (.bool true)) (.t 74))])
  (.cond (.t 75) (.seq (.reg [o 2 (.mov (.c (.int .i32 65533))), o 3 (.mov (ci 1))])
    .ret) .skip))
  (.seq (.seq (.reg [o 76 (.mov (.t 8)), o 77 (.bin .leq (.t 76) (ci 3))])
  (.cond (.t 77) (.seq (.reg [o 78 (.mov (.t 5)), o 79 (.bin .and (.t 78) (.c (.int .u8 15))), o 80 (.conv .i32 (.t 79)), o 81 (.shf .shl (.t 80) (.c (.int .u64 12))), o 82 (.mov (.t 10)), o 83 (.bin .and (.t 82) (.c (.int .u8 63))), o 84 (.conv .i32 (.t 83)), o 85 (.shf .shl (.t 84) (.c (.int .u64 6))), o 86 (.bin .or (.t 81) (.t 85)), o 87 (.mov (.t 11)), o 88 (.bin .and (.t 87) (.c (.int .u8 63))), o 89 (.conv .i32 (.t 88)), o 90 (.bin .or (.t 86) (.t 89)), o 2 (.mov (.t 90)), o 3 (.mov (ci 3))])
    .ret) .skip))
  (.seq (.reg [o 91 (.mov (.t 0)), o 92 (.idxs (.t 91) (ci 3)), o 12 (.mov (.t 92))])
  (.seq (.seq (.reg [o 93 (.mov (.t 12)), o 94 (.bin .lss (.t 93) (.c (.int .u8 128))), o 95 (.mov (.t 94)), gf 95 (some 96) (.mov (.t 12)), gf 95 (some 97) (.bin .lss (.c (.int .u8 191)) (.t 96)), o 98 (.pick (.t 95) (.c (.bool true)) (.t 97))])
  (.cond (.t 98) (.seq (.reg [o 2 (.mov (.c (.int .i32 65533))), o 3 (.mov (ci 1))])
    .ret) .skip))
  (.seq (.reg [o 99 (.mov (.t 5)), o 100 (.bin .and (.t 99) (.c (.int .u8 7))), o 101 (.conv .i32 (.t 100)), o 102 (.shf .shl (.t 101) (.c (.int .u64 18))), o 103 (.mov (.t 10)), o 104 (.bin .and (.t 103) (.c (.int .u8 63))), o 105 (.conv .i32 (.t 104)), o 106 (.shf .shl (.t 105) (.c (.int .u64 12))), o 107 (.bin .or (.t 102) (.t 106)), o 108 (.mov (.t 11)), o 109 (.bin .and (.t 108) (.c (.int .u8 63))), o 110 (.conv .i32 (.t 109)), o 111 (.shf .shl (.t 110) (.c (.int .u64 6))), o 112 (.bin .or (.t 107) (.t 111)), o 113 (.mov (.t 12)), o 114 (.bin .and (.t 113) (.c (.int .u8 63))), o 115 (.conv .i32 (.t 114)), o 116 (.bin .or (.t 112) (.t 115)), o 2 (.mov (.t 116)), o 3 (.mov (ci 4))])
  .ret))))))))))))))))))⟩

def pf_istringslite_IndexByte : PF := ⟨8, [.t 4],
  (.seq (.reg [o 4 (.mov (ci 0))])
  (.seq (.reg [o 5 (.mov (.t 0)), o 6 (.mov (.t 1)), o 7 (.call (cf fn_ibytealg_IndexByteString) [(.t 5), (.t 6)]), o 4 (.mov (.t 7))])
  .ret))⟩

def pf_ibytealg_Cutover : PF := ⟨6, [.t 2],
  (.seq (.reg [o 2 (.mov (ci 0))])
  (.seq (.reg [o 3 (.mov (.t 0)), o 4 (.bin .add (.t 3) (ci 16)), o 5 (.bin .quo (.t 4) (ci 8)), o 2 (.mov (.t 5))])
  .ret))⟩

def l2_ibytealg_IndexRabinKarp_string : PC :=
  (.seq (.seq (.reg [o 41 (.mov (.t 10)), o 42 (.mov (.t 0)), o 43 (.len .str (.t 42)), o 44 (.bin .lss (.t 41) (.t 43))])
  (.cond (.t 44) .skip (.exit 2)))
  (.block 3 (.seq (.reg [o 45 (.mov (.t 8)), o 46 (.bin .mul (.t 45) (.c (.int .u32 16777619))), o 8 (.mov (.t 46))])
    (.seq (.reg [o 47 (.mov (.t 8)), o 48 (.mov (.t 0)), o 49 (.mov (.t 10)), o 50 (.idxs (.t 48) (.t 49)), o 51 (.conv .u32 (.t 50)), o 52 (.bin .add (.t 47) (.t 51)), o 8 (.mov (.t 52))])
    (.seq (.reg [o 53 (.mov (.t 8)), o 54 (.mov (.t 6)), o 55 (.mov (.t 0)), o 56 (.mov (.t 10)), o 57 (.mov (.t 7)), o 58 (.bin .sub (.t 56) (.t 57)), o 59 (.idxs (.t 55) (.t 58)), o 60 (.conv .u32 (.t 59)), o 61 (.bin .mul (.t 54) (.t 60)), o 62 (.bin .sub (.t 53) (.t 61)), o 8 (.mov (.t 62))])
    (.seq (.reg [o 63 (.mov (.t 10)), o 64 (.bin .add (.t 63) (ci 1)), o 10 (.mov (.t 64))])
    (.seq (.reg [o 65 (.mov (.t 8)), o 66 (.mov (.t 5)), o 67 (.eq .int (.t 65) (.t 66)), o 68 (.mov (.t 67)), gt 68 (some 69) (.mov (.t 0)), gt 68 (some 70) (.mov (.t 10)), gt 68 (some 71) (.mov (.t 7)), gt 68 (some 72) (.bin .sub (.t 70) (.t 71)), gt 68 (some 73) (.mov (.t 10)), gt 68 (some 74) (.slstr (.t 69) (some (.t 72)) (some (.t 73))), gt 68 (some 75) (.mov (.t 1)), gt 68 (some 76) (.eq .str (.t 74) (.t 75)), o 77 (.pick (.t 68) (.t 76) (.c (.bool false)))])
    (.cond (.t 77) (.seq (.reg [o 78 (.mov (.t 10)), o 79 (.mov (.t 7)), o 80 (.bin .sub (.t 78) (.t 79)), o 4 (.mov (.t 80))])
      .ret) .skip))))))))
def l1_ibytealg_IndexRabinKarp_string : PC :=
  (.seq (.seq (.reg [o 18 (.mov (.t 9)), o 19 (.mov (.t 7)), o 20 (.bin .lss (.t 18) (.t 19))])
  (.cond (.t 20) .skip (.exit 0)))
  (.seq (.block 1 (.reg [o 23 (.mov (.t 8)), o 24 (.bin .mul (.t 23) (.c (.int .u32 16777619))), o 25 (.mov (.t 0)), o 26 (.mov (.t 9)), o 27 (.idxs (.t 25) (.t 26)), o 28 (.conv .u32 (.t 27)), o 29 (.bin .add (.t 24) (.t 28)), o 8 (.mov (.t 29))]))
  (.reg [o 21 (.mov (.t 9)), o 22 (.bin .add (.t 21) (ci 1)), o 9 (.mov (.t 22))])))
def pf_ibytealg_IndexRabinKarp_string : PF := ⟨81, [.t 4],
  (.seq (.reg [o 4 (.mov (ci 0))])
  (.seq (.reg [o 12 (.mov (.t 1)), o 13 (.call (cf fn_ibytealg_hashStr_string) [(.t 12)]), o 11 (.mov (.t 13)), o 14 (.ext (.t 11) 0), o 15 (.ext (.t 11) 1), o 5 (.mov (.t 14)), o 6 (.mov (.t 15))])
  (.seq (.reg [o 16 (.mov (.t 1)), o 17 (.len .str (.t 16)), o 7 (.mov (.t 17))])
  (.seq (.reg [o 8 (.mov (.c (.int .u32 0)))])
  (.seq (.seq (.reg [o 9 (.mov (ci 0))])
  (.block 0 (.loop l1_ibytealg_IndexRabinKarp_string)))
  (.seq (.seq (.reg [o 30 (.mov (.t 8)), o 31 (.mov (.t 5)), o 32 (.eq .int (.t 30) (.t 31)), o 33 (.mov (.t 32)), gt 33 (some 34) (.mov (.t 0)), gt 33 (some 35) (.mov (.t 7)), gt 33 (some 36) (.slstr (.t 34) none (some (.t 35))), gt 33 (some 37) (.mov (.t 1)), gt 33 (some 38) (.eq .str (.t 36) (.t 37)), o 39 (.pick (.t 33) (.t 38) (.c (.bool false)))])
  (.cond (.t 39) (.seq (.reg [o 4 (.mov (ci 0))])
    .ret) .skip))
  (.seq (.seq (.reg [o 40 (.mov (.t 7)), o 10 (.mov (.t 40))])
  (.block 2 (.loop l2_ibytealg_IndexRabinKarp_string)))
  (.seq (.reg [o 4 (.mov (ci (-1)))])
  .ret))))))))⟩

def pf_Pstrings_asciiSet_contains : PF := ⟨10, [.t 4],
  (.seq (.reg [o 4 (.mov (.c (.bool false)))])
  (.seq (.reg [o 5 (.mov (.t 0)), o 6 (.mov (.t 1)), o 7 (.nilck (.t 5)), o 8 (.iaddra 256 1 (.t 7) (.t 6)), o 9 (.load false 1 (.t 8)), o 4 (.mov (.t 9))])
  .ret))⟩

def pf_strings_ContainsRune : PF := ⟨9, [.t 4],
  (.seq (.reg [o 4 (.mov (.c (.bool false)))])
  (.seq (.reg [o 5 (.mov (.t 0)), o 6 (.mov (.t 1)), o 7 (.call (cf fn_strings_IndexRune) [(.t 5), (.t 6)]), o 8 (.bin .geq (.t 7) (ci 0)), o 4 (.mov (.t 8))])
  .ret))⟩

def l1_unicode_utf8_DecodeLastRuneInString : PC :=
  (.seq (.seq (.reg [o 25 (.mov (.t 5)), o 26 (.mov (.t 6)), o 27 (.bin .geq (.t 25) (.t 26))])
  (.cond (.t 27) .skip (.exit 0)))
  (.seq (.block 1 (.seq (.reg [o 30 (.mov (.t 0)), o 31 (.mov (.t 5)), o 32 (.idxs (.t 30) (.t 31)), o 33 (.call (cf fn_unicode_utf8_RuneStart) [(.t 32)])])
    (.cond (.t 33) (.exit 0) .skip)))
  (.reg [o 28 (.mov (.t 5)), o 29 (.bin .sub (.t 28) (ci 1)), o 5 (.mov (.t 29))])))
def pf_unicode_utf8_DecodeLastRuneInString : PF := ⟨51, [.t 2, .t 3],
  (.seq (.reg [o 2 (.mov (.c (.int .i32 0))), o 3 (.mov (ci 0))])
  (.seq (.reg [o 7 (.mov (.t 0)), o 8 (.len .str (.t 7)), o 4 (.mov (.t 8))])
  (.seq (.seq (.reg [o 9 (.mov (.t 4)), o 10 (.eq .int (.t 9) (ci 0))])
  (.cond (.t 10) (.seq (.reg [o 2 (.mov (.c (.int .i32 65533))), o 3 (.mov (ci 0))])
    .ret) .skip))
  (.seq (.reg [o 11 (.mov (.t 4)), o 12 (.bin .sub (.t 11) (ci 1)), o 5 (.mov (.t 12))])
  (.seq (.reg [o 13 (.mov (.t 0)), o 14 (.mov (.t 5)), o 15 (.idxs (.t 13) (.t 14)), o 16 (.conv .i32 (.t 15)), o 2 (.mov (.t 16))])
  (.seq (.seq (.reg [o 17 (.mov (.t 2)), o 18 (.bin .lss (.t 17) (.c (.int .i32 128)))])
  (.cond (.t 18) (.seq (.reg [o 19 (.mov (.t 2)), o 2 (.mov (.t 19)), o 3 (.mov (ci 1))])
    .ret) .skip))
  (.seq (.reg [o 20 (.mov (.t 4)), o 21 (.bin .sub (.t 20) (ci 4)), o 22 (.max [(.t 21), (ci 0)]), o 6 (.mov (.t 22))])
  (.seq (.seq (.reg [o 23 (.mov (.t 5)), o 24 (.bin .sub (.t 23) (ci 1)), o 5 (.mov (.t 24))])
  (.block 0 (.loop l1_unicode_utf8_DecodeLastRuneInString)))
  (.seq (.seq (.reg [o 34 (.mov (.t 5)), o 35 (.bin .lss (.t 34) (ci 0))])
  (.cond (.t 35) (.reg [o 5 (.mov (ci 0))]) .skip))
  (.seq (.reg [o 37 (.mov (.t 0)), o 38 (.mov (.t 5)), o 39 (.mov (.t 4)), o 40 (.slstr (.t 37) (some (.t 38)) (some (.t 39))), o 41 (.call (cf fn_unicode_utf8_DecodeRuneInString) [(.t 40)]), o 36 (.mov (.t 41)), o 42 (.ext (.t 36) 0), o 43 (.ext (.t 36) 1), o 2 (.mov (.t 42)), o 3 (.mov (.t 43))])
  (.seq (.seq (.reg [o 44 (.mov (.t 5)), o 45 (.mov (.t 3)), o 46 (.bin .add (.t 44) (.t 45)), o 47 (.mov (.t 4)), o 48 (.ne .int (.t 46) (.t 47))])
  (.cond (.t 48) (.seq (.reg [o 2 (.mov (.c (.int .i32 65533))), o 3 (.mov (ci 1))])
    .ret) .skip))
  (.seq (.reg [o 49 (.mov (.t 2)), o 50 (.mov (.t 3)), o 2 (.mov (.t 49)), o 3 (.mov (.t 50))])
  .ret))))))))))))⟩

def l1_istrconv_ParseUint : PC :=
  (.seq (.reg [o 102 (.bin .lss (.t 101) (.t 100))])
  (.seq (.cond (.t 102) .skip (.exit 3))
  (.seq (.block 4 (.seq (.reg [o 103 (.iaddrs 1 (.t 99) (.t 101)), o 104 (.load false 1 (.t 103)), o 15 (.mov (.t 104))])
    (.seq (.reg [o 16 (.mov (.c (.int .u8 0)))])
    (.seq (.block 5 (.seq (.reg [o 107 (.mov (.t 15)), o 108 (.eq .int (.t 107) (.c (.int .u8 95))), o 109 (.mov (.t 108)), gt 109 (some 110) (.mov (.t 8)), o 111 (.pick (.t 109) (.t 110) (.c (.bool false))), o 106 (.mov (.t 111))])
      (.cond (.t 106) (.seq (.reg [o 12 (.mov (.c (.bool true)))])
        (.exit 4)) (.seq (.reg [o 113 (.mov (.t 15)), o 114 (.bin .leq (.c (.int .u8 48)) (.t 113)), o 115 (.mov (.t 114)), gt 115 (some 116) (.mov (.t 15)), gt 115 (some 117) (.bin .leq (.t 116) (.c (.int .u8 57))), o 118 (.pick (.t 115) (.t 117) (.c (.bool false))), o 112 (.mov (.t 118))])
        (.cond (.t 112) (.reg [o 119 (.mov (.t 15)), o 120 (.bin .sub (.t 119) (.c (.int .u8 48))), o 16 (.mov (.t 120))]) (.seq (.reg [o 122 (.mov (.t 15)), o 123 (.call (cf fn_istrconv_lower) [(.t 122)]), o 124 (.bin .leq (.c (.int .u8 97)) (.t 123)), o 125 (.mov (.t 124)), gt 125 (some 126) (.mov (.t 15)), gt 125 (some 127) (.call (cf fn_istrconv_lower) [(.t 126)]), gt 125 (some 128) (.bin .leq (.t 127) (.c (.int .u8 122))), o 129 (.pick (.t 125) (.t 128) (.c (.bool false))), o 121 (.mov (.t 129))])
          (.cond (.t 121) (.reg [o 130 (.mov (.t 15)), o 131 (.call (cf fn_istrconv_lower) [(.t 130)]), o 132 (.bin .sub (.t 131) (.c (.int .u8 97))), o 133 (.bin .add (.t 132) (.c (.int .u8 10))), o 16 (.mov (.t 133))]) (.seq (.reg [o 105 (.mki ty_strconv_Error (ci 2)), o 6 (.mov (.c (.int .u64 0))), o 7 (.mov (.t 105))])
            .ret))))))))
    (.seq (.seq (.reg [o 134 (.mov (.t 16)), o 135 (.mov (.t 1)), o 136 (.conv .u8 (.t 135)), o 137 (.bin .geq (.t 134) (.t 136))])
    (.cond (.t 137) (.seq (.reg [o 138 (.mki ty_strconv_Error (ci 2)), o 6 (.mov (.c (.int .u64 0))), o 7 (.mov (.t 138))])
      .ret) .skip))
    (.seq (.seq (.reg [o 139 (.mov (.t 13)), o 140 (.mov (.t 10)), o 141 (.bin .geq (.t 139) (.t 140))])
    (.cond (.t 141) (.seq (.reg [o 142 (.mov (.t 11)), o 143 (.mki ty_strconv_Error (ci 1)), o 6 (.mov (.t 142)), o 7 (.mov (.t 143))])
      .ret) .skip))
    (.seq (.reg [o 144 (.mov (.t 13)), o 145 (.mov (.t 1)), o 146 (.conv .u64 (.t 145)), o 147 (.bin .mul (.t 144) (.t 146)), o 13 (.mov (.t 147))])
    (.seq (.reg [o 148 (.mov (.t 13)), o 149 (.mov (.t 16)), o 150 (.conv .u64 (.t 149)), o 151 (.bin .add (.t 148) (.t 150)), o 17 (.mov (.t 151))])
    (.seq (.seq (.reg [o 152 (.mov (.t 17)), o 153 (.mov (.t 13)), o 154 (.bin .lss (.t 152) (.t 153)), o 155 (.mov (.t 154)), gf 155 (some 156) (.mov (.t 17)), gf 155 (some 157) (.mov (.t 11)), gf 155 (some 158) (.bin .gtr (.t 156) (.t 157)), o 159 (.pick (.t 155) (.c (.bool true)) (.t 158))])
    (.cond (.t 159) (.seq (.reg [o 160 (.mov (.t 11)), o 161 (.mki ty_strconv_Error (ci 1)), o 6 (.mov (.t 160)), o 7 (.mov (.t 161))])
      .ret) .skip))
    (.reg [o 162 (.mov (.t 17)), o 13 (.mov (.t 162))]))))))))))
  (.reg [o 163 (.bin .add (.t 101) (ci 1)), o 101 (.mov (.t 163))]))))
def pf_istrconv_ParseUint : PF := ⟨172, [.t 6, .t 7],
  (.seq (.reg [o 6 (.mov (.c (.int .u64 0))), o 7 (.mov (.c .nili))])
  (.seq (.seq (.reg [o 18 (.mov (.t 0)), o 19 (.eq .str (.t 18) (.c (S [])))])
  (.cond (.t 19) (.seq (.reg [o 20 (.mki ty_strconv_Error (ci 2)), o 6 (.mov (.c (.int .u64 0))), o 7 (.mov (.t 20))])
    .ret) .skip))
  (.seq (.reg [o 21 (.mov (.t 1)), o 22 (.eq .int (.t 21) (ci 0)), o 8 (.mov (.t 22))])
  (.seq (.reg [o 23 (.mov (.t 0)), o 9 (.mov (.t 23))])
  (.seq (.block 0 (.seq (.reg [o 26 (.mov (.t 1)), o 27 (.bin .leq (ci 2) (.t 26)), o 28 (.mov (.t 27)), gt 28 (some 29) (.mov (.t 1)), gt 28 (some 30) (.bin .leq (.t 29) (ci 36)), o 31 (.pick (.t 28) (.t 30) (.c (.bool false))), o 25 (.mov (.t 31))])
    (.cond (.t 25) .skip (.seq (.reg [o 33 (.mov (.t 1)), o 34 (.eq .int (.t 33) (ci 0)), o 32 (.mov (.t 34))])
      (.cond (.t 32) (.seq (.reg [o 1 (.mov (ci 10))])
        (.seq (.reg [o 35 (.mov (.t 0)), o 36 (.idxs (.t 35) (ci 0)), o 37 (.eq .int (.t 36) (.c (.int .u8 48)))])
        (.cond (.t 37) (.block 1 (.seq (.reg [o 41 (.mov (.t 0)), o 42 (.len .str (.t 41)), o 43 (.bin .geq (.t 42) (ci 3)), o 44 (.mov (.t 43)), gt 44 (some 45) (.mov (.t 0)), gt 44 (some 46) (.idxs (.t 45) (ci 1)), gt 44 (some 47) (.call (cf fn_istrconv_lower) [(.t 46)]), gt 44 (some 48) (.eq .int (.t 47) (.c (.int .u8 98))), o 49 (.pick (.t 44) (.t 48) (.c (.bool false))), o 40 (.mov (.t 49))])
            (.cond (.t 40) (.seq (.reg [o 1 (.mov (ci 2))])
              (.reg [o 50 (.mov (.t 0)), o 51 (.slstr (.t 50) (some (ci 2)) none), o 0 (.mov (.t 51))])) (.seq (.reg [o 53 (.mov (.t 0)), o 54 (.len .str (.t 53)), o 55 (.bin .geq (.t 54) (ci 3)), o 56 (.mov (.t 55)), gt 56 (some 57) (.mov (.t 0)), gt 56 (some 58) (.idxs (.t 57) (ci 1)), gt 56 (some 59) (.call (cf fn_istrconv_lower) [(.t 58)]), gt 56 (some 60) (.eq .int (.t 59) (.c (.int .u8 111))), o 61 (.pick (.t 56) (.t 60) (.c (.bool false))), o 52 (.mov (.t 61))])
              (.cond (.t 52) (.seq (.reg [o 1 (.mov (ci 8))])
                (.reg [o 62 (.mov (.t 0)), o 63 (.slstr (.t 62) (some (ci 2)) none), o 0 (.mov (.t 63))])) (.seq (.reg [o 65 (.mov (.t 0)), o 66 (.len .str (.t 65)), o 67 (.bin .geq (.t 66) (ci 3)), o 68 (.mov (.t 67)), gt 68 (some 69) (.mov (.t 0)), gt 68 (some 70) (.idxs (.t 69) (ci 1)), gt 68 (some 71) (.call (cf fn_istrconv_lower) [(.t 70)]), gt 68 (some 72) (.eq .int (.t 71) (.c (.int .u8 120))), o 73 (.pick (.t 68) (.t 72) (.c (.bool false))), o 64 (.mov (.t 73))])
                (.cond (.t 64) (.seq (.reg [o 1 (.mov (ci 16))])
                  (.reg [o 74 (.mov (.t 0)), o 75 (.slstr (.t 74) (some (ci 2)) none), o 0 (.mov (.t 75))])) (.seq (.reg [o 1 (.mov (ci 8))])
                  (.reg [o 38 (.mov (.t 0)), o 39 (.slstr (.t 38) (some (ci 1)) none), o 0 (.mov (.t 39))]))))))))) .skip))) (.seq (.reg [o 24 (.mki ty_strconv_Error (ci 3)), o 6 (.mov (.c (.int .u64 0))), o 7 (.mov (.t 24))])
        .ret))))))
  (.seq (.seq (.reg [o 76 (.mov (.t 2)), o 77 (.eq .int (.t 76) (ci 0))])
  (.cond (.t 77) (.reg [o 2 (.mov (ci 64))]) (.seq (.reg [o 78 (.mov (.t 2)), o 79 (.bin .lss (.t 78) (ci 0)), o 80 (.mov (.t 79)), gf 80 (some 81) (.mov (.t 2)), gf 80 (some 82) (.bin .gtr (.t 81) (ci 64)), o 83 (.pick (.t 80) (.c (.bool true)) (.t 82))])
    (.cond (.t 83) (.seq (.reg [o 84 (.mki ty_strconv_Error (ci 4)), o 6 (.mov (.c (.int .u64 0))), o 7 (.mov (.t 84))])
      .ret) .skip))))
  (.seq (.reg [o 10 (.mov (.c (.int .u64 0)))])
  (.seq (.seq (.reg [o 85 (.mov (.t 1))])
  (.block 2 (.seq (.reg [o 91 (.eq .int (.t 85) (ci 10)), o 90 (.mov (.t 91))])
    (.cond (.t 90) (.reg [o 10 (.mov (.c (.int .u64 1844674407370955162)))]) (.seq (.reg [o 93 (.eq .int (.t 85) (ci 16)), o 92 (.mov (.t 93))])
      (.cond (.t 92) (.reg [o 10 (.mov (.c (.int .u64 1152921504606846976)))]) (.reg [o 86 (.mov (.t 1)), o 87 (.conv .u64 (.t 86)), o 88 (.bin .quo (.c (.int .u64 18446744073709551615)) (.t 87)), o 89 (.bin .add (.t 88) (.c (.int .u64 1))), o 10 (.mov (.t 89))])))))))
  (.seq (.reg [o 94 (.mov (.t 2)), o 95 (.conv .u64 (.t 94)), o 96 (.shf .shl (.c (.int .u64 1)) (.t 95)), o 97 (.bin .sub (.t 96) (.c (.int .u64 1))), o 11 (.mov (.t 97))])
  (.seq (.reg [o 12 (.mov (.c (.bool false)))])
  (.seq (.reg [o 13 (.mov (.c (.int .u64 0)))])
  (.seq (.seq (.reg [o 98 (.mov (.t 0)), o 99 (.s2b (.t 98)), o 100 (.len .sl (.t 99)), o 101 (.mov (ci 0))])
  (.block 3 (.loop l1_istrconv_ParseUint)))
  (.seq (.seq (.reg [o 164 (.mov (.t 12)), o 165 (.mov (.t 164)), gt 165 (some 166) (.mov (.t 9)), gt 165 (some 167) (.call (cf fn_istrconv_underscoreOK) [(.t 166)]), gt 165 (some 168) (.un .not (.t 167)), o 169 (.pick (.t 165) (.t 168) (.c (.bool false)))])
  (.cond (.t 169) (.seq (.reg [o 170 (.mki ty_strconv_Error (ci 2)), o 6 (.mov (.c (.int .u64 0))), o 7 (.mov (.t 170))])
    .ret) .skip))
  (.seq (.reg [o 171 (.mov (.t 13)), o 6 (.mov (.t 171)), o 7 (.mov (.c .nili))])
  .ret))))))))))))))⟩

def pf_strconv_toError : PF := ⟨43, [.t 10],
  (.seq (.reg [o 10 (.mov (.c .nili))])
  (.seq (.seq (.reg [o 11 (.mov (.t 4))])
  (.block 0 (.seq (.reg [o 13 (.mki ty_strconv_Error (ci 2)), o 14 (.eq (.ife tys_int) (.t 11) (.t 13)), o 12 (.mov (.t 14))])
    (.cond (.t 12) (.seq (.reg [o 15 (.mov (.t 0)), o 16 (.mov (.t 1)), o 17 (.call (cf fn_strconv_syntaxError) [(.t 15), (.t 16)]), o 18 (.mki ty_p_strconv_NumError (.t 17)), o 10 (.mov (.t 18))])
      .ret) (.seq (.reg [o 20 (.mki ty_strconv_Error (ci 1)), o 21 (.eq (.ife tys_int) (.t 11) (.t 20)), o 19 (.mov (.t 21))])
      (.cond (.t 19) (.seq (.reg [o 22 (.mov (.t 0)), o 23 (.mov (.t 1)), o 24 (.call (cf fn_strconv_rangeError) [(.t 22), (.t 23)]), o 25 (.mki ty_p_strconv_NumError (.t 24)), o 10 (.mov (.t 25))])
        .ret) (.seq (.reg [o 27 (.mki ty_strconv_Error (ci 3)), o 28 (.eq (.ife tys_int) (.t 11) (.t 27)), o 26 (.mov (.t 28))])
        (.cond (.t 26) (.seq (.reg [o 29 (.mov (.t 0)), o 30 (.mov (.t 1)), o 31 (.mov (.t 2)), o 32 (.call (cf fn_strconv_baseError) [(.t 29), (.t 30), (.t 31)]), o 33 (.mki ty_p_strconv_NumError (.t 32)), o 10 (.mov (.t 33))])
          .ret) (.seq (.reg [o 35 (.mki ty_strconv_Error (ci 4)), o 36 (.eq (.ife tys_int) (.t 11) (.t 35)), o 34 (.mov (.t 36))])
          (.cond (.t 34) (.seq (.reg [o 37 (.mov (.t 0)), o 38 (.mov (.t 1)), o 39 (.mov (.t 3)), o 40 (.call (cf fn_strconv_bitSizeError) [(.t 37), (.t 38), (.t 39)]), o 41 (.mki ty_p_strconv_NumError (.t 40)), o 10 (.mov (.t 41))])
            .ret) .skip))))))))))
  (.seq (.reg [o 42 (.mov (.t 4)), o 10 (.mov (.t 42))])
  .ret)))⟩

def pf_istrconv_FormatUint : PF := ⟨32, [.t 4],
  (.seq (.reg [o 4 (.mov (.c (S [])))])
  (.seq (.seq (.reg [o 9 (.mov (.t 1)), o 10 (.eq .int (.t 9) (ci 10))])
  (.cond (.t 10) (.seq (.seq (.reg [o 11 (.mov (.t 0)), o 12 (.bin .lss (.t 11) (.c (.int .u64 100)))])
    (.cond (.t 12) (.seq (.reg [o 13 (.mov (.t 0)), o 14 (.conv .i64 (.t 13)), o 15 (.call (cf fn_istrconv_small) [(.t 14)]), o 4 (.mov (.t 15))])
      .ret) .skip))
    (.seq (.reg [o 5 (.alloc [(.int .u8 0), (.int .u8 0), (.int .u8 0), (.int .u8 0), (.int .u8 0), (.int .u8 0), (.int .u8 0), (.int .u8 0), (.int .u8 0), (.int .u8 0), (.int .u8 0), (.int .u8 0), (.int .u8 0), (.int .u8 0), (.int .u8 0), (.int .u8 0), (.int .u8 0), (.int .u8 0), (.int .u8 0), (.int .u8 0), (.int .u8 0), (.int .u8 0), (.int .u8 0), (.int .u8 0)] none)])
    (.seq (.reg [o 16 (.mov (.t 0)), o 17 (.call (cf fn_istrconv_numDigits) [(.t 16)]), o 6 (.mov (.t 17))])
    (.seq (.reg [o 18 (.mov (.t 6)), o 19 (.slarr 24 1 (.t 5) none (some (.t 18))), o 20 (.mov (.t 0)), o 21 (.call (cf fn_istrconv_formatBase10) [(.t 19), (.t 20)])])
    (.seq (.reg [o 22 (.mov (.t 6)), o 23 (.slarr 24 1 (.t 5) none (some (.t 22))), o 24 (.b2s (.t 23)), o 4 (.mov (.t 24))])
    .ret))))) .skip))
  (.seq (.reg [o 26 (.mov (.t 0)), o 27 (.mov (.t 1)), o 28 (.call (cf fn_istrconv_formatBits) [(.c .nils), (.t 26), (.t 27), (.c (.bool false)), (.c (.bool false))]), o 25 (.mov (.t 28)), o 29 (.ext (.t 25) 0), o 30 (.ext (.t 25) 1), o 7 (.mov (.t 29)), o 8 (.mov (.t 30))])
  (.seq (.reg [o 31 (.mov (.t 8)), o 4 (.mov (.t 31))])
  .ret))))⟩

def pf_math_bits_TrailingZeros32 : PF := ⟨14, [.t 2],
  (.seq (.reg [o 2 (.mov (ci 0))])
  (.seq (.seq (.reg [o 3 (.mov (.t 0)), o 4 (.eq .int (.t 3) (.c (.int .u32 0)))])
  (.cond (.t 4) (.seq (.reg [o 2 (.mov (ci 32))])
    .ret) .skip))
  (.seq (.reg [o 5 (.mov (.t 0)), o 6 (.mov (.t 0)), o 7 (.un .neg (.t 6)), o 8 (.bin .and (.t 5) (.t 7)), o 9 (.bin .mul (.t 8) (.c (.int .u32 125613361))), o 10 (.shf .shr (.t 9) (.c (.int .u64 27))), o 11 (.iaddra 32 1 (.c (.glob g_math_bits_deBruijn32tab)) (.t 10)), o 12 (.load false 1 (.t 11)), o 13 (.conv .i64 (.t 12)), o 2 (.mov (.t 13))])
  .ret)))⟩

def pf_math_bits_TrailingZeros64 : PF := ⟨14, [.t 2],
  (.seq (.reg [o 2 (.mov (ci 0))])
  (.seq (.seq (.reg [o 3 (.mov (.t 0)), o 4 (.eq .int (.t 3) (.c (.int .u64 0)))])
  (.cond (.t 4) (.seq (.reg [o 2 (.mov (ci 64))])
    .ret) .skip))
  (.seq (.reg [o 5 (.mov (.t 0)), o 6 (.mov (.t 0)), o 7 (.un .neg (.t 6)), o 8 (.bin .and (.t 5) (.t 7)), o 9 (.bin .mul (.t 8) (.c (.int .u64 285870213051353865))), o 10 (.shf .shr (.t 9) (.c (.int .u64 58))), o 11 (.iaddra 64 1 (.c (.glob g_math_bits_deBruijn64tab)) (.t 10)), o 12 (.load false 1 (.t 11)), o 13 (.conv .i64 (.t 12)), o 2 (.mov (.t 13))])
  .ret)))⟩

def l2_ibytealg_hashStr_string : PC :=
  (.seq (.seq (.reg [o 24 (.mov (.t 8)), o 25 (.bin .gtr (.t 24) (ci 0))])
  (.cond (.t 25) .skip (.exit 2)))
  (.seq (.block 3 (.seq (.seq (.reg [o 28 (.mov (.t 8)), o 29 (.bin .and (.t 28) (ci 1)), o 30 (.ne .int (.t 29) (ci 0))])
    (.cond (.t 30) (.reg [o 31 (.mov (.t 6)), o 32 (.mov (.t 7)), o 33 (.bin .mul (.t 31) (.t 32)), o 6 (.mov (.t 33))]) .skip))
    (.reg [o 34 (.mov (.t 7)), o 35 (.mov (.t 7)), o 36 (.bin .mul (.t 34) (.t 35)), o 7 (.mov (.t 36))])))
  (.reg [o 26 (.mov (.t 8)), o 27 (.shf .shr (.t 26) (.c (.int .u64 1))), o 8 (.mov (.t 27))])))
def l1_ibytealg_hashStr_string : PC :=
  (.seq (.seq (.reg [o 9 (.mov (.t 5)), o 10 (.mov (.t 0)), o 11 (.len .str (.t 10)), o 12 (.bin .lss (.t 9) (.t 11))])
  (.cond (.t 12) .skip (.exit 0)))
  (.seq (.block 1 (.reg [o 15 (.mov (.t 4)), o 16 (.bin .mul (.t 15) (.c (.int .u32 16777619))), o 17 (.mov (.t 0)), o 18 (.mov (.t 5)), o 19 (.idxs (.t 17) (.t 18)), o 20 (.conv .u32 (.t 19)), o 21 (.bin .add (.t 16) (.t 20)), o 4 (.mov (.t 21))]))
  (.reg [o 13 (.mov (.t 5)), o 14 (.bin .add (.t 13) (ci 1)), o 5 (.mov (.t 14))])))
def pf_ibytealg_hashStr_string : PF := ⟨39, [.t 2, .t 3],
  (.seq (.reg [o 2 (.mov (.c (.int .u32 0))), o 3 (.mov (.c (.int .u32 0)))])
  (.seq (.reg [o 4 (.mov (.c (.int .u32 0)))])
  (.seq (.seq (.reg [o 5 (.mov (ci 0))])
  (.block 0 (.loop l1_ibytealg_hashStr_string)))
  (.seq (.reg [o 6 (.mov (.c (.int .u32 1))), o 7 (.mov (.c (.int .u32 16777619)))])
  (.seq (.seq (.reg [o 22 (.mov (.t 0)), o 23 (.len .str (.t 22)), o 8 (.mov (.t 23))])
  (.block 2 (.loop l2_ibytealg_hashStr_string)))
  (.seq (.reg [o 37 (.mov (.t 4)), o 38 (.mov (.t 6)), o 2 (.mov (.t 37)), o 3 (.mov (.t 38))])
  .ret))))))⟩

def pf_unicode_utf8_RuneStart : PF := ⟨6, [.t 2],
  (.seq (.reg [o 2 (.mov (.c (.bool false)))])
  (.seq (.reg [o 3 (.mov (.t 0)), o 4 (.bin .and (.t 3) (.c (.int .u8 192))), o 5 (.ne .int (.t 4) (.c (.int .u8 128))), o 2 (.mov (.t 5))])
  .ret))⟩

def pf_istrconv_lower : PF := ⟨5, [.t 2],
  (.seq (.reg [o 2 (.mov (.c (.int .u8 0)))])
  (.seq (.reg [o 3 (.mov (.t 0)), o 4 (.bin .or (.t 3) (.c (.int .u8 32))), o 2 (.mov (.t 4))])
  .ret))⟩

def l1_istrconv_underscoreOK : PC :=
  (.seq (.seq (.reg [o 51 (.mov (.t 4)), o 52 (.mov (.t 0)), o 53 (.len .str (.t 52)), o 54 (.bin .lss (.t 51) (.t 53))])
  (.cond (.t 54) .skip (.exit 0)))
  (.seq (.block 1 (.seq (.seq (.reg [o 57 (.mov (.t 0)), o 58 (.mov (.t 4)), o 59 (.idxs (.t 57) (.t 58)), o 60 (.bin .leq (.c (.int .u8 48)) (.t 59)), o 61 (.mov (.t 60)), gt 61 (some 62) (.mov (.t 0)), gt 61 (some 63) (.mov (.t 4)), gt 61 (some 64) (.idxs (.t 62) (.t 63)), gt 61 (some 65) (.bin .leq (.t 64) (.c (.int .u8 57))), o 66 (.pick (.t 61) (.t 65) (.c (.bool false))), o 67 (.mov (.t 66)), gf 67 (some 68) (.mov (.t 5)), gf 67 (some 69) (.mov (.t 68)), gt 69 (some 70) (.mov (.t 0)), gt 69 (some 71) (.mov (.t 4)), gt 69 (some 72) (.idxs (.t 70) (.t 71)), gt 69 (some 73) (.call (cf fn_istrconv_lower) [(.t 72)]), gt 69 (some 74) (.bin .leq (.c (.int .u8 97)) (.t 73)), gf 67 (some 75) (.pick (.t 69) (.t 74) (.c (.bool false))), gf 67 (some 76) (.mov (.t 75)), gt 76 (some 77) (.mov (.t 0)), gt 76 (some 78) (.mov (.t 4)), gt 76 (some 79) (.idxs (.t 77) (.t 78)), gt 76 (some 80) (.call (cf fn_istrconv_lower) [(.t 79)]), gt 76 (some 81) (.bin .leq (.t 80) (.c (.int .u8 102))), gf 67 (some 82) (.pick (.t 76) (.t 81) (.c (.bool false))), o 83 (.pick (.t 67) (.c (.bool true)) (.t 82))])
    (.cond (.t 83) (.seq (.reg [o 3 (.mov (.c (.int .i32 48)))])
      (.exit 1)) .skip))
    (.seq (.seq (.reg [o 84 (.mov (.t 0)), o 85 (.mov (.t 4)), o 86 (.idxs (.t 84) (.t 85)), o 87 (.eq .int (.t 86) (.c (.int .u8 95)))])
    (.cond (.t 87) (.seq (.seq (.reg [o 88 (.mov (.t 3)), o 89 (.ne .int (.t 88) (.c (.int .i32 48)))])
      (.cond (.t 89) (.seq (.reg [o 2 (.mov (.c (.bool false)))])
        .ret) .skip))
      (.seq (.reg [o 3 (.mov (.c (.int .i32 95)))])
      (.exit 1))) .skip))
    (.seq (.seq (.reg [o 90 (.mov (.t 3)), o 91 (.eq .int (.t 90) (.c (.int .i32 95)))])
    (.cond (.t 91) (.seq (.reg [o 2 (.mov (.c (.bool false)))])
      .ret) .skip))
    (.reg [o 3 (.mov (.c (.int .i32 33)))])))))
  (.reg [o 55 (.mov (.t 4)), o 56 (.bin .add (.t 55) (ci 1)), o 4 (.mov (.t 56))])))
def pf_istrconv_underscoreOK : PF := ⟨94, [.t 2],
  (.seq (.reg [o 2 (.mov (.c (.bool false)))])
  (.seq (.reg [o 3 (.mov (.c (.int .i32 94)))])
  (.seq (.reg [o 4 (.mov (ci 0))])
  (.seq (.seq (.reg [o 6 (.mov (.t 0)), o 7 (.len .str (.t 6)), o 8 (.bin .geq (.t 7) (ci 1)), o 9 (.mov (.t 8)), gt 9 (some 10) (.mov (.t 0)), gt 9 (some 11) (.idxs (.t 10) (ci 0)), gt 9 (some 12) (.eq .int (.t 11) (.c (.int .u8 45))), gt 9 (some 13) (.mov (.t 12)), gf 13 (some 14) (.mov (.t 0)), gf 13 (some 15) (.idxs (.t 14) (ci 0)), gf 13 (some 16) (.eq .int (.t 15) (.c (.int .u8 43))), gt 9 (some 17) (.pick (.t 13) (.c (.bool true)) (.t 16)), o 18 (.pick (.t 9) (.t 17) (.c (.bool false)))])
  (.cond (.t 18) (.reg [o 19 (.mov (.t 0)), o 20 (.slstr (.t 19) (some (ci 1)) none), o 0 (.mov (.t 20))]) .skip))
  (.seq (.reg [o 5 (.mov (.c (.bool false)))])
  (.seq (.seq (.reg [o 21 (.mov (.t 0)), o 22 (.len .str (.t 21)), o 23 (.bin .geq (.t 22) (ci 2)), o 24 (.mov (.t 23)), gt 24 (some 25) (.mov (.t 0)), gt 24 (some 26) (.idxs (.t 25) (ci 0)), gt 24 (some 27) (.eq .int (.t 26) (.c (.int .u8 48))), o 28 (.pick (.t 24) (.t 27) (.c (.bool false))), o 29 (.mov (.t 28)), gt 29 (some 30) (.mov (.t 0)), gt 29 (some 31) (.idxs (.t 30) (ci 1)), gt 29 (some 32) (.call (cf fn_istrconv_lower) [(.t 31)]), gt 29 (some 33) (.eq .int (.t 32) (.c (.int .u8 98))), gt 29 (some 34) (.mov (.t 33)), gf 34 (some 35) (.mov (.t 0)), gf 34 (some 36) (.idxs (.t 35) (ci 1)), gf 34 (some 37) (.call (cf fn_istrconv_lower) [(.t 36)]), gf 34 (some 38) (.eq .int (.t 37) (.c (.int .u8 111))), gt 29 (some 39) (.pick (.t 34) (.c (.bool true)) (.t 38)), gt 29 (some 40) (.mov (.t 39)), gf 40 (some 41) (.mov (.t 0)), gf 40 (some 42) (.idxs (.t 41) (ci 1)), gf 40 (some 43) (.call (cf fn_istrconv_lower) [(.t 42)]), gf 40 (some 44) (.eq .int (.t 43) (.c (.int .u8 120))), gt 29 (some 45) (.pick (.t 40) (.c (.bool true)) (.t 44)), o 46 (.pick (.t 29) (.t 45) (.c (.bool false)))])
  (.cond (.t 46) (.seq (.reg [o 4 (.mov (ci 2))])
    (.seq (.reg [o 3 (.mov (.c (.int .i32 48)))])
    (.reg [o 47 (.mov (.t 0)), o 48 (.idxs (.t 47) (ci 1)), o 49 (.call (cf fn_istrconv_lower) [(.t 48)]), o 50 (.eq .int (.t 49) (.c (.int .u8 120))), o 5 (.mov (.t 50))]))) .skip))
  (.seq (.block 0 (.loop l1_istrconv_underscoreOK))
  (.seq (.reg [o 92 (.mov (.t 3)), o 93 (.ne .int (.t 92) (.c (.int .i32 95))), o 2 (.mov (.t 93))])
  .ret))))))))⟩

def pf_strconv_syntaxError : PF := ⟨11, [.t 4],
  (.seq (.reg [o 4 (.mov (.c .nilp))])
  (.seq (.dreg [(o 5 (.mov (.t 0)), []), (o 6 (.mov (.t 1)), []), (o 7 (.call (cf fn_istringslite_Clone) [(.t 6)]), []), (o 8 (.load false 1 (.c (.glob g_strconv_ErrSyntax))), [2]), (o 9 (.build [(S []), (S []), .nili] [(0, 1, (.t 5)), (1, 1, (.t 7)), (2, 1, (.t 8))]), []), (o 10 (.box (.t 9)), []), (o 4 (.mov (.t 10)), [])])
  .ret))⟩

def pf_strconv_rangeError : PF := ⟨11, [.t 4],
  (.seq (.reg [o 4 (.mov (.c .nilp))])
  (.seq (.dreg [(o 5 (.mov (.t 0)), []), (o 6 (.mov (.t 1)), []), (o 7 (.call (cf fn_istringslite_Clone) [(.t 6)]), []), (o 8 (.load false 1 (.c (.glob g_strconv_ErrRange))), [2]), (o 9 (.build [(S []), (S []), .nili] [(0, 1, (.t 5)), (1, 1, (.t 7)), (2, 1, (.t 8))]), []), (o 10 (.box (.t 9)), []), (o 4 (.mov (.t 10)), [])])
  .ret))⟩

def pf_strconv_baseError : PF := ⟨16, [.t 6],
  (.seq (.reg [o 6 (.mov (.c .nilp))])
  (.seq (.reg [o 7 (.mov (.t 0)), o 8 (.mov (.t 1)), o 9 (.call (cf fn_istringslite_Clone) [(.t 8)]), o 10 (.mov (.t 2)), o 11 (.call (cf fn_strconv_Itoa) [(.t 10)]), o 12 (.bin .add (.c (S [105, 110, 118, 97, 108, 105, 100, 32, 98, 97, 115, 101, 32])) (.t 11)), o 13 (.call (cf fn_errors_New) [(.t 12)]), o 14 (.build [(S []), (S []), .nili] [(0, 1, (.t 7)), (1, 1, (.t 9)), (2, 1, (.t 13))]), o 15 (.box (.t 14)), o 6 (.mov (.t 15))])
  .ret))⟩

def pf_strconv_bitSizeError : PF := ⟨16, [.t 6],
  (.seq (.reg [o 6 (.mov (.c .nilp))])
  (.seq (.reg [o 7 (.mov (.t 0)), o 8 (.mov (.t 1)), o 9 (.call (cf fn_istringslite_Clone) [(.t 8)]), o 10 (.mov (.t 2)), o 11 (.call (cf fn_strconv_Itoa) [(.t 10)]), o 12 (.bin .add (.c (S [105, 110, 118, 97, 108, 105, 100, 32, 98, 105, 116, 32, 115, 105, 122, 101, 32])) (.t 11)), o 13 (.call (cf fn_errors_New) [(.t 12)]), o 14 (.build [(S []), (S []), .nili] [(0, 1, (.t 7)), (1, 1, (.t 9)), (2, 1, (.t 13))]), o 15 (.box (.t 14)), o 6 (.mov (.t 15))])
  .ret))⟩

def pf_istringslite_Clone : PF := ⟨18, [.t 2],
  (.seq (.reg [o 2 (.mov (.c (S [])))])
  (.seq (.seq (.reg [o 4 (.mov (.t 0)), o 5 (.len .str (.t 4)), o 6 (.eq .int (.t 5) (ci 0))])
  (.cond (.t 6) (.seq (.reg [o 2 (.mov (.c (S [])))])
    .ret) .skip))
  (.seq (.reg [o 7 (.mov (.t 0)), o 8 (.len .str (.t 7)), o 9 (.mkslice ty_uint8 [(.int .u8 0)] 1 (.t 8) (.t 8)), o 3 (.mov (.t 9))])
  (.seq (.reg [o 10 (.mov (.t 3)), o 11 (.mov (.t 0)), o 12 (.copy 1 (.t 10) (.t 11))])
  (.seq (.reg [o 13 (.mov (.t 3)), o 14 (.iaddrs 1 (.t 13) (ci 0)), o 15 (.mov (.t 3)), o 16 (.len .sl (.t 15)), o 17 (.ustr ty_uint8 (.t 14) (.t 16)), o 2 (.mov (.t 17))])
  .ret)))))⟩

def pf_errors_New : PF := ⟨7, [.t 2],
  (.seq (.reg [o 2 (.mov (.c .nili))])
  (.seq (.reg [o 3 (.mov (.t 0)), o 4 (.build [(S [])] [(0, 1, (.t 3))]), o 5 (.box (.t 4)), o 6 (.mki ty_p_errors_errorString (.t 5)), o 2 (.mov (.t 6))])
  .ret))⟩

def codeT : List (Nat × PF) := [(fn_law23_AsmPrints, pf_law23_AsmPrints), (fn_law23_AsmBack, pf_law23_AsmBack), (fn_law23_AsmLoose, pf_law23_AsmLoose), (fn_law23_AsmNames, pf_law23_AsmNames), (fn_law23_wakes, pf_law23_wakes), (fn_asm_Word, pf_asm_Word), (fn_ref23_Word, pf_ref23_Word), (fn_asm_Print, pf_asm_Print), (fn_law13_Of, pf_law13_Of), (fn_ref13_May, pf_ref13_May), (fn_ref23_Print, pf_ref23_Print), (fn_code_May, pf_code_May), (fn_asm_Parse, pf_asm_Parse), (fn_law23_row, pf_law23_row), (fn_law23_split, pf_law23_split), (fn_asm_Print_1, pf_asm_Print_1), (fn_strconv_Itoa, pf_strconv_Itoa), (fn_slices_ContainsFunc_code_Instr_code_Instr, pf_slices_ContainsFunc_code_Instr_code_Instr), (fn_asm_Print_2, pf_asm_Print_2), (fn_asm_goes, pf_asm_goes), (fn_Pstrings_Builder_WriteString, pf_Pstrings_Builder_WriteString), (fn_Pstrings_Builder_String, pf_Pstrings_Builder_String), (fn_ref23_digits, pf_ref23_digits), (fn_code_May_1, pf_code_May_1), (fn_code_Instr_may, pf_code_Instr_may), (fn_strings_Split, pf_strings_Split), (fn_Pasm_parser_line, pf_Pasm_parser_line), (fn_istrconv_Itoa, pf_istrconv_Itoa), (fn_slices_IndexFunc_code_Instr_code_Instr, pf_slices_IndexFunc_code_Instr_code_Instr), (fn_strings_genSplit, pf_strings_genSplit), (fn_strings_Cut, pf_strings_Cut), (fn_Pasm_parser_line_1, pf_Pasm_parser_line_1), (fn_strings_FieldsFunc, pf_strings_FieldsFunc), (fn_Pasm_parser_line_1_1, pf_Pasm_parser_line_1_1), (fn_asm_labelled, pf_asm_labelled), (fn_Pasm_parser_instr, pf_Pasm_parser_instr), (fn_istrconv_FormatInt, pf_istrconv_FormatInt), (fn_strings_explode, pf_strings_explode), (fn_strings_Count, pf_strings_Count), (fn_strings_Index, pf_strings_Index), (fn_istringslite_Cut, pf_istringslite_Cut), (fn_strings_Trim, pf_strings_Trim), (fn_slices_Index_string_string, pf_slices_Index_string_string), (fn_asm_number, pf_asm_number), (fn_istrconv_small, pf_istrconv_small), (fn_istrconv_numDigits, pf_istrconv_numDigits), (fn_istrconv_formatBase10, pf_istrconv_formatBase10), (fn_istrconv_formatBits, pf_istrconv_formatBits), (fn_unicode_utf8_RuneCountInString, pf_unicode_utf8_RuneCountInString), (fn_unicode_utf8_DecodeRuneInString, pf_unicode_utf8_DecodeRuneInString), (fn_istringslite_Index, pf_istringslite_Index), (fn_strings_trimLeftByte, pf_strings_trimLeftByte), (fn_strings_trimRightByte, pf_strings_trimRightByte), (fn_strings_makeASCIISet, pf_strings_makeASCIISet), (fn_strings_trimLeftASCII, pf_strings_trimLeftASCII), (fn_strings_trimRightASCII, pf_strings_trimRightASCII), (fn_strings_trimLeftUnicode, pf_strings_trimLeftUnicode), (fn_strings_trimRightUnicode, pf_strings_trimRightUnicode), (fn_strconv_ParseUint, pf_strconv_ParseUint), (fn_strconv_FormatUint, pf_strconv_FormatUint), (fn_istrconv_log10Pow2, pf_istrconv_log10Pow2), (fn_math_bits_Len64, pf_math_bits_Len64), (fn_istrconv_bool2_int, pf_istrconv_bool2_int), (fn_istrconv_isPowerOfTwo, pf_istrconv_isPowerOfTwo), (fn_math_bits_TrailingZeros, pf_math_bits_TrailingZeros), (fn_unicode_utf8_decodeRuneInStringSlow, pf_unicode_utf8_decodeRuneInStringSlow), (fn_istringslite_IndexByte, pf_istringslite_IndexByte), (fn_ibytealg_Cutover, pf_ibytealg_Cutover), (fn_ibytealg_IndexRabinKarp_string, pf_ibytealg_IndexRabinKarp_string), (fn_Pstrings_asciiSet_contains, pf_Pstrings_asciiSet_contains), (fn_strings_ContainsRune, pf_strings_ContainsRune), (fn_unicode_utf8_DecodeLastRuneInString, pf_unicode_utf8_DecodeLastRuneInString), (fn_istrconv_ParseUint, pf_istrconv_ParseUint), (fn_strconv_toError, pf_strconv_toError), (fn_istrconv_FormatUint, pf_istrconv_FormatUint), (fn_math_bits_TrailingZeros32, pf_math_bits_TrailingZeros32), (fn_math_bits_TrailingZeros64, pf_math_bits_TrailingZeros64), (fn_ibytealg_hashStr_string, pf_ibytealg_hashStr_string), (fn_unicode_utf8_RuneStart, pf_unicode_utf8_RuneStart), (fn_istrconv_lower, pf_istrconv_lower), (fn_istrconv_underscoreOK, pf_istrconv_underscoreOK), (fn_strconv_syntaxError, pf_strconv_syntaxError), (fn_strconv_rangeError, pf_strconv_rangeError), (fn_strconv_baseError, pf_strconv_baseError), (fn_strconv_bitSizeError, pf_strconv_bitSizeError), (fn_istringslite_Clone, pf_istringslite_Clone), (fn_errors_New, pf_errors_New)]

theorem ok_law23_AsmPrints : OkF Tryd.prog fn_law23_AsmPrints pf_law23_AsmPrints := ⟨false, Tryd.f3, Tryd.func3, by kernel_rfl⟩
theorem ok_law23_AsmBack : OkF Tryd.prog fn_law23_AsmBack pf_law23_AsmBack := ⟨false, Tryd.f4, Tryd.func4, by kernel_rfl⟩
theorem ok_law23_AsmLoose : OkF Tryd.prog fn_law23_AsmLoose pf_law23_AsmLoose := ⟨false, Tryd.f5, Tryd.func5, by kernel_rfl⟩
theorem ok_law23_AsmNames : OkF Tryd.prog fn_law23_AsmNames pf_law23_AsmNames := ⟨false, Tryd.f6, Tryd.func6, by kernel_rfl⟩
theorem ok_law23_wakes : OkF Tryd.prog fn_law23_wakes pf_law23_wakes := ⟨false, Tryd.f7, Tryd.func7, by kernel_rfl⟩
theorem ok_asm_Word : OkF Tryd.prog fn_asm_Word pf_asm_Word := ⟨false, Tryd.f8, Tryd.func8, by kernel_rfl⟩
theorem ok_ref23_Word : OkF Tryd.prog fn_ref23_Word pf_ref23_Word := ⟨false, Tryd.f9, Tryd.func9, by kernel_rfl⟩
theorem ok_asm_Print : OkF Tryd.prog fn_asm_Print pf_asm_Print := ⟨false, Tryd.f10, Tryd.func10, by kernel_rfl⟩
theorem ok_law13_Of : OkF Tryd.prog fn_law13_Of pf_law13_Of := ⟨false, Tryd.f11, Tryd.func11, by kernel_rfl⟩
theorem ok_ref13_May : OkF Tryd.prog fn_ref13_May pf_ref13_May := ⟨false, Tryd.f12, Tryd.func12, by kernel_rfl⟩
theorem ok_ref23_Print : OkF Tryd.prog fn_ref23_Print pf_ref23_Print := ⟨false, Tryd.f13, Tryd.func13, by kernel_rfl⟩
theorem ok_code_May : OkF Tryd.prog fn_code_May pf_code_May := ⟨false, Tryd.f14, Tryd.func14, by kernel_rfl⟩
theorem ok_asm_Parse : OkF Tryd.prog fn_asm_Parse pf_asm_Parse := ⟨false, Tryd.f15, Tryd.func15, by kernel_rfl⟩
theorem ok_law23_row : OkF Tryd.prog fn_law23_row pf_law23_row := ⟨false, Tryd.f16, Tryd.func16, by kernel_rfl⟩
theorem ok_law23_split : OkF Tryd.prog fn_law23_split pf_law23_split := ⟨false, Tryd.f17, Tryd.func17, by kernel_rfl⟩
theorem ok_asm_Print_1 : OkF Tryd.prog fn_asm_Print_1 pf_asm_Print_1 := ⟨false, Tryd.f18, Tryd.func18, by kernel_rfl⟩
theorem ok_strconv_Itoa : OkF Tryd.prog fn_strconv_Itoa pf_strconv_Itoa := ⟨false, Tryd.f19, Tryd.func19, by kernel_rfl⟩
theorem ok_slices_ContainsFunc_code_Instr_code_Instr : OkF Tryd.prog fn_slices_ContainsFunc_code_Instr_code_Instr pf_slices_ContainsFunc_code_Instr_code_Instr := ⟨false, Tryd.f20, Tryd.func20, by kernel_rfl⟩
theorem ok_asm_Print_2 : OkF Tryd.prog fn_asm_Print_2 pf_asm_Print_2 := ⟨false, Tryd.f21, Tryd.func21, by kernel_rfl⟩
theorem ok_asm_goes : OkF Tryd.prog fn_asm_goes pf_asm_goes := ⟨false, Tryd.f22, Tryd.func22, by kernel_rfl⟩
theorem ok_Pstrings_Builder_WriteString : OkF Tryd.prog fn_Pstrings_Builder_WriteString pf_Pstrings_Builder_WriteString := ⟨false, Tryd.f23, Tryd.func23, by kernel_rfl⟩
theorem ok_Pstrings_Builder_String : OkF Tryd.prog fn_Pstrings_Builder_String pf_Pstrings_Builder_String := ⟨false, Tryd.f24, Tryd.func24, by kernel_rfl⟩
theorem ok_ref23_digits : OkF Tryd.prog fn_ref23_digits pf_ref23_digits := ⟨false, Tryd.f25, Tryd.func25, by kernel_rfl⟩
theorem ok_code_May_1 : OkF Tryd.prog fn_code_May_1 pf_code_May_1 := ⟨false, Tryd.f26, Tryd.func26, by kernel_rfl⟩
theorem ok_code_Instr_may : OkF Tryd.prog fn_code_Instr_may pf_code_Instr_may := ⟨false, Tryd.f27, Tryd.func27, by kernel_rfl⟩
theorem ok_strings_Split : OkF Tryd.prog fn_strings_Split pf_strings_Split := ⟨false, Tryd.f28, Tryd.func28, by kernel_rfl⟩
theorem ok_Pasm_parser_line : OkF Tryd.prog fn_Pasm_parser_line pf_Pasm_parser_line := ⟨false, Tryd.f29, Tryd.func29, by kernel_rfl⟩
theorem ok_istrconv_Itoa : OkF Tryd.prog fn_istrconv_Itoa pf_istrconv_Itoa := ⟨false, Tryd.f30, Tryd.func30, by kernel_rfl⟩
theorem ok_slices_IndexFunc_code_Instr_code_Instr : OkF Tryd.prog fn_slices_IndexFunc_code_Instr_code_Instr pf_slices_IndexFunc_code_Instr_code_Instr := ⟨false, Tryd.f31, Tryd.func31, by kernel_rfl⟩
theorem ok_strings_genSplit : OkF Tryd.prog fn_strings_genSplit pf_strings_genSplit := ⟨false, Tryd.f33, Tryd.func33, by kernel_rfl⟩
theorem ok_strings_Cut : OkF Tryd.prog fn_strings_Cut pf_strings_Cut := ⟨false, Tryd.f34, Tryd.func34, by kernel_rfl⟩
theorem ok_Pasm_parser_line_1 : OkF Tryd.prog fn_Pasm_parser_line_1 pf_Pasm_parser_line_1 := ⟨false, Tryd.f35, Tryd.func35, by kernel_rfl⟩
theorem ok_strings_FieldsFunc : OkF Tryd.prog fn_strings_FieldsFunc pf_strings_FieldsFunc := ⟨false, Tryd.f36, Tryd.func36, by kernel_rfl⟩
theorem ok_Pasm_parser_line_1_1 : OkF Tryd.prog fn_Pasm_parser_line_1_1 pf_Pasm_parser_line_1_1 := ⟨false, Tryd.f37, Tryd.func37, by kernel_rfl⟩
theorem ok_asm_labelled : OkF Tryd.prog fn_asm_labelled pf_asm_labelled := ⟨false, Tryd.f38, Tryd.func38, by kernel_rfl⟩
theorem ok_Pasm_parser_instr : OkF Tryd.prog fn_Pasm_parser_instr pf_Pasm_parser_instr := ⟨false, Tryd.f39, Tryd.func39, by kernel_rfl⟩
theorem ok_istrconv_FormatInt : OkF Tryd.prog fn_istrconv_FormatInt pf_istrconv_FormatInt := ⟨false, Tryd.f40, Tryd.func40, by kernel_rfl⟩
theorem ok_strings_explode : OkF Tryd.prog fn_strings_explode pf_strings_explode := ⟨false, Tryd.f42, Tryd.func42, by kernel_rfl⟩
theorem ok_strings_Count : OkF Tryd.prog fn_strings_Count pf_strings_Count := ⟨false, Tryd.f43, Tryd.func43, by kernel_rfl⟩
theorem ok_strings_Index : OkF Tryd.prog fn_strings_Index pf_strings_Index := ⟨false, Tryd.f44, Tryd.func44, by kernel_rfl⟩
theorem ok_istringslite_Cut : OkF Tryd.prog fn_istringslite_Cut pf_istringslite_Cut := ⟨false, Tryd.f45, Tryd.func45, by kernel_rfl⟩
theorem ok_strings_Trim : OkF Tryd.prog fn_strings_Trim pf_strings_Trim := ⟨false, Tryd.f46, Tryd.func46, by kernel_rfl⟩
theorem ok_slices_Index_string_string : OkF Tryd.prog fn_slices_Index_string_string pf_slices_Index_string_string := ⟨false, Tryd.f47, Tryd.func47, by kernel_rfl⟩
theorem ok_asm_number : OkF Tryd.prog fn_asm_number pf_asm_number := ⟨false, Tryd.f48, Tryd.func48, by kernel_rfl⟩
theorem ok_istrconv_small : OkF Tryd.prog fn_istrconv_small pf_istrconv_small := ⟨false, Tryd.f49, Tryd.func49, by kernel_rfl⟩
theorem ok_istrconv_numDigits : OkF Tryd.prog fn_istrconv_numDigits pf_istrconv_numDigits := ⟨false, Tryd.f50, Tryd.func50, by kernel_rfl⟩
theorem ok_istrconv_formatBase10 : OkF Tryd.prog fn_istrconv_formatBase10 pf_istrconv_formatBase10 := ⟨false, Tryd.f51, Tryd.func51, by kernel_rfl⟩
theorem ok_istrconv_formatBits : OkF Tryd.prog fn_istrconv_formatBits pf_istrconv_formatBits := ⟨false, Tryd.f52, Tryd.func52, by kernel_rfl⟩
theorem ok_unicode_utf8_RuneCountInString : OkF Tryd.prog fn_unicode_utf8_RuneCountInString pf_unicode_utf8_RuneCountInString := ⟨false, Tryd.f53, Tryd.func53, by kernel_rfl⟩
theorem ok_unicode_utf8_DecodeRuneInString : OkF Tryd.prog fn_unicode_utf8_DecodeRuneInString pf_unicode_utf8_DecodeRuneInString := ⟨false, Tryd.f54, Tryd.func54, by kernel_rfl⟩
theorem ok_istringslite_Index : OkF Tryd.prog fn_istringslite_Index pf_istringslite_Index := ⟨false, Tryd.f56, Tryd.func56, by kernel_rfl⟩
theorem ok_strings_trimLeftByte : OkF Tryd.prog fn_strings_trimLeftByte pf_strings_trimLeftByte := ⟨false, Tryd.f57, Tryd.func57, by kernel_rfl⟩
theorem ok_strings_trimRightByte : OkF Tryd.prog fn_strings_trimRightByte pf_strings_trimRightByte := ⟨false, Tryd.f58, Tryd.func58, by kernel_rfl⟩
theorem ok_strings_makeASCIISet : OkF Tryd.prog fn_strings_makeASCIISet pf_strings_makeASCIISet := ⟨false, Tryd.f59, Tryd.func59, by kernel_rfl⟩
theorem ok_strings_trimLeftASCII : OkF Tryd.prog fn_strings_trimLeftASCII pf_strings_trimLeftASCII := ⟨false, Tryd.f60, Tryd.func60, by kernel_rfl⟩
theorem ok_strings_trimRightASCII : OkF Tryd.prog fn_strings_trimRightASCII pf_strings_trimRightASCII := ⟨false, Tryd.f61, Tryd.func61, by kernel_rfl⟩
theorem ok_strings_trimLeftUnicode : OkF Tryd.prog fn_strings_trimLeftUnicode pf_strings_trimLeftUnicode := ⟨false, Tryd.f62, Tryd.func62, by kernel_rfl⟩
theorem ok_strings_trimRightUnicode : OkF Tryd.prog fn_strings_trimRightUnicode pf_strings_trimRightUnicode := ⟨false, Tryd.f63, Tryd.func63, by kernel_rfl⟩
theorem ok_strconv_ParseUint : OkF Tryd.prog fn_strconv_ParseUint pf_strconv_ParseUint := ⟨false, Tryd.f64, Tryd.func64, by kernel_rfl⟩
theorem ok_strconv_FormatUint : OkF Tryd.prog fn_strconv_FormatUint pf_strconv_FormatUint := ⟨false, Tryd.f65, Tryd.func65, by kernel_rfl⟩
theorem ok_istrconv_log10Pow2 : OkF Tryd.prog fn_istrconv_log10Pow2 pf_istrconv_log10Pow2 := ⟨false, Tryd.f66, Tryd.func66, by kernel_rfl⟩
theorem ok_math_bits_Len64 : OkF Tryd.prog fn_math_bits_Len64 pf_math_bits_Len64 := ⟨false, Tryd.f67, Tryd.func67, by kernel_rfl⟩
theorem ok_istrconv_bool2_int : OkF Tryd.prog fn_istrconv_bool2_int pf_istrconv_bool2_int := ⟨false, Tryd.f68, Tryd.func68, by kernel_rfl⟩
theorem ok_istrconv_isPowerOfTwo : OkF Tryd.prog fn_istrconv_isPowerOfTwo pf_istrconv_isPowerOfTwo := ⟨false, Tryd.f69, Tryd.func69, by kernel_rfl⟩
theorem ok_math_bits_TrailingZeros : OkF Tryd.prog fn_math_bits_TrailingZeros pf_math_bits_TrailingZeros := ⟨false, Tryd.f70, Tryd.func70, by kernel_rfl⟩
theorem ok_unicode_utf8_decodeRuneInStringSlow : OkF Tryd.prog fn_unicode_utf8_decodeRuneInStringSlow pf_unicode_utf8_decodeRuneInStringSlow := ⟨false, Tryd.f71, Tryd.func71, by kernel_rfl⟩
theorem ok_istringslite_IndexByte : OkF Tryd.prog fn_istringslite_IndexByte pf_istringslite_IndexByte := ⟨false, Tryd.f72, Tryd.func72, by kernel_rfl⟩
theorem ok_ibytealg_Cutover : OkF Tryd.prog fn_ibytealg_Cutover pf_ibytealg_Cutover := ⟨false, Tryd.f74, Tryd.func74, by kernel_rfl⟩
theorem ok_ibytealg_IndexRabinKarp_string : OkF Tryd.prog fn_ibytealg_IndexRabinKarp_string pf_ibytealg_IndexRabinKarp_string := ⟨false, Tryd.f75, Tryd.func75, by kernel_rfl⟩
theorem ok_Pstrings_asciiSet_contains : OkF Tryd.prog fn_Pstrings_asciiSet_contains pf_Pstrings_asciiSet_contains := ⟨false, Tryd.f76, Tryd.func76, by kernel_rfl⟩
theorem ok_strings_ContainsRune : OkF Tryd.prog fn_strings_ContainsRune pf_strings_ContainsRune := ⟨false, Tryd.f77, Tryd.func77, by kernel_rfl⟩
theorem ok_unicode_utf8_DecodeLastRuneInString : OkF Tryd.prog fn_unicode_utf8_DecodeLastRuneInString pf_unicode_utf8_DecodeLastRuneInString := ⟨false, Tryd.f78, Tryd.func78, by kernel_rfl⟩
theorem ok_istrconv_ParseUint : OkF Tryd.prog fn_istrconv_ParseUint pf_istrconv_ParseUint := ⟨false, Tryd.f79, Tryd.func79, by kernel_rfl⟩
theorem ok_strconv_toError : OkF Tryd.prog fn_strconv_toError pf_strconv_toError := ⟨false, Tryd.f80, Tryd.func80, by kernel_rfl⟩
theorem ok_istrconv_FormatUint : OkF Tryd.prog fn_istrconv_FormatUint pf_istrconv_FormatUint := ⟨false, Tryd.f81, Tryd.func81, by kernel_rfl⟩
theorem ok_math_bits_TrailingZeros32 : OkF Tryd.prog fn_math_bits_TrailingZeros32 pf_math_bits_TrailingZeros32 := ⟨false, Tryd.f82, Tryd.func82, by kernel_rfl⟩
theorem ok_math_bits_TrailingZeros64 : OkF Tryd.prog fn_math_bits_TrailingZeros64 pf_math_bits_TrailingZeros64 := ⟨false, Tryd.f83, Tryd.func83, by kernel_rfl⟩
theorem ok_ibytealg_hashStr_string : OkF Tryd.prog fn_ibytealg_hashStr_string pf_ibytealg_hashStr_string := ⟨false, Tryd.f85, Tryd.func85, by kernel_rfl⟩
theorem ok_unicode_utf8_RuneStart : OkF Tryd.prog fn_unicode_utf8_RuneStart pf_unicode_utf8_RuneStart := ⟨false, Tryd.f87, Tryd.func87, by kernel_rfl⟩
theorem ok_istrconv_lower : OkF Tryd.prog fn_istrconv_lower pf_istrconv_lower := ⟨false, Tryd.f88, Tryd.func88, by kernel_rfl⟩
theorem ok_istrconv_underscoreOK : OkF Tryd.prog fn_istrconv_underscoreOK pf_istrconv_underscoreOK := ⟨false, Tryd.f89, Tryd.func89, by kernel_rfl⟩
theorem ok_strconv_syntaxError : OkF Tryd.prog fn_strconv_syntaxError pf_strconv_syntaxError := ⟨false, Tryd.f90, Tryd.func90, by kernel_rfl⟩
theorem ok_strconv_rangeError : OkF Tryd.prog fn_strconv_rangeError pf_strconv_rangeError := ⟨false, Tryd.f91, Tryd.func91, by kernel_rfl⟩
theorem ok_strconv_baseError : OkF Tryd.prog fn_strconv_baseError pf_strconv_baseError := ⟨false, Tryd.f92, Tryd.func92, by kernel_rfl⟩
theorem ok_strconv_bitSizeError : OkF Tryd.prog fn_strconv_bitSizeError pf_strconv_bitSizeError := ⟨false, Tryd.f93, Tryd.func93, by kernel_rfl⟩
theorem ok_istringslite_Clone : OkF Tryd.prog fn_istringslite_Clone pf_istringslite_Clone := ⟨false, Tryd.f96, Tryd.func96, by kernel_rfl⟩
theorem ok_errors_New : OkF Tryd.prog fn_errors_New pf_errors_New := ⟨false, Tryd.f97, Tryd.func97, by kernel_rfl⟩

theorem codeT_ok : ∀ x ∈ codeT, OkF Tryd.prog x.1 x.2 := by
  unfold codeT
  simp only [List.forall_mem_cons]
  exact ⟨ok_law23_AsmPrints, ok_law23_AsmBack, ok_law23_AsmLoose, ok_law23_AsmNames, ok_law23_wakes, ok_asm_Word, ok_ref23_Word, ok_asm_Print, ok_law13_Of, ok_ref13_May, ok_ref23_Print, ok_code_May, ok_asm_Parse, ok_law23_row, ok_law23_split, ok_asm_Print_1, ok_strconv_Itoa, ok_slices_ContainsFunc_code_Instr_code_Instr, ok_asm_Print_2, ok_asm_goes, ok_Pstrings_Builder_WriteString, ok_Pstrings_Builder_String, ok_ref23_digits, ok_code_May_1, ok_code_Instr_may, ok_strings_Split, ok_Pasm_parser_line, ok_istrconv_Itoa, ok_slices_IndexFunc_code_Instr_code_Instr, ok_strings_genSplit, ok_strings_Cut, ok_Pasm_parser_line_1, ok_strings_FieldsFunc, ok_Pasm_parser_line_1_1, ok_asm_labelled, ok_Pasm_parser_instr, ok_istrconv_FormatInt, ok_strings_explode, ok_strings_Count, ok_strings_Index, ok_istringslite_Cut, ok_strings_Trim, ok_slices_Index_string_string, ok_asm_number, ok_istrconv_small, ok_istrconv_numDigits, ok_istrconv_formatBase10, ok_istrconv_formatBits, ok_unicode_utf8_RuneCountInString, ok_unicode_utf8_DecodeRuneInString, ok_istringslite_Index, ok_strings_trimLeftByte, ok_strings_trimRightByte, ok_strings_makeASCIISet, ok_strings_trimLeftASCII, ok_strings_trimRightASCII, ok_strings_trimLeftUnicode, ok_strings_trimRightUnicode, ok_strconv_ParseUint, ok_strconv_FormatUint, ok_istrconv_log10Pow2, ok_math_bits_Len64, ok_istrconv_bool2_int, ok_istrconv_isPowerOfTwo, ok_math_bits_TrailingZeros, ok_unicode_utf8_decodeRuneInStringSlow, ok_istringslite_IndexByte, ok_ibytealg_Cutover, ok_ibytealg_IndexRabinKarp_string, ok_Pstrings_asciiSet_contains, ok_strings_ContainsRune, ok_unicode_utf8_DecodeLastRuneInString, ok_istrconv_ParseUint, ok_strconv_toError, ok_istrconv_FormatUint, ok_math_bits_TrailingZeros32, ok_math_bits_TrailingZeros64, ok_ibytealg_hashStr_string, ok_unicode_utf8_RuneStart, ok_istrconv_lower, ok_istrconv_underscoreOK, ok_strconv_syntaxError, ok_strconv_rangeError, ok_strconv_baseError, ok_strconv_bitSizeError, ok_istringslite_Clone, ok_errors_New, by simp⟩

end Go.Proofs.YtoolhdikfdjikaaDoor
