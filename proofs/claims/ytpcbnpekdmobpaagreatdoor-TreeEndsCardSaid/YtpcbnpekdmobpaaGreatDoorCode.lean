/- Functions of the program as code with all types looked up, tied to it; no condition. -/
import Derived.KernelRfl
import Derived.Test.YtpcbnpekdmobpaaGreatDoorChecked
import Derived.Test.YtpcbnpekdmobpaaGreatDoorVb
set_option linter.unusedSimpArgs false
set_option linter.unusedVariables false
set_option linter.constructorNameAsVariable false
set_option maxRecDepth 100000
set_option linter.unusedVariables false
open Go Go.Ev Go.VL
namespace Go.Proofs.YtpcbnpekdmobpaaGreatDoor
abbrev F_main_main : FuncId := 0
abbrev F_gosem_cut : FuncId := 1
abbrev F_gosem_cut_init : FuncId := 2
abbrev F_law16_TreeNexts : FuncId := 3
abbrev F_law16_TreeAsks : FuncId := 4
abbrev F_law16_TreeMade : FuncId := 5
abbrev F_law16_TreeEnds : FuncId := 6
abbrev F_law16_TreeScopes : FuncId := 7
abbrev F_law24_SpaceRises : FuncId := 8
abbrev F_law16_Make : FuncId := 9
abbrev F_law16_put : FuncId := 10
abbrev F_law16_told : FuncId := 11
abbrev F_tree_May : FuncId := 12
abbrev F_ref15_May : FuncId := 13
abbrev F_law16_Few : FuncId := 14
abbrev F_tree_Same : FuncId := 15
abbrev F_ref15_Same : FuncId := 16
abbrev F_tree_Diff : FuncId := 17
abbrev F_ref15_Diff : FuncId := 18
abbrev F_tree_Parent : FuncId := 19
abbrev F_ref15_Parent : FuncId := 20
abbrev F_tree_End : FuncId := 21
abbrev F_ref15_End : FuncId := 22
abbrev F_ref10_SameAttrs : FuncId := 23
abbrev F_tree_Scope : FuncId := 24
abbrev F_ref15_Scope : FuncId := 25
abbrev F_law24_told : FuncId := 26
abbrev F_space_Least : FuncId := 27
abbrev F_space_Most : FuncId := 28
abbrev F_space_Bound : FuncId := 29
abbrev F_ref10_Scope_Pop : FuncId := 30
abbrev F_law16_attrs : FuncId := 31
abbrev F_ref10_Scope_Push : FuncId := 32
abbrev F_ref15_Names : FuncId := 33
abbrev F_scope_New : FuncId := 34
abbrev F_tree_stands : FuncId := 35
abbrev F_scope_Scope_Pop : FuncId := 36
abbrev F_tree_aside : FuncId := 37
abbrev F_tree_element : FuncId := 38
abbrev F_ref15_SameNode : FuncId := 39
abbrev F_ref15_element : FuncId := 40
abbrev F_ref15_plain : FuncId := 41
abbrev F_slices_EqualFunc_api_Tree_api_Tree_api_Node_api_Node : FuncId := 42
abbrev F_tree_one : FuncId := 43
abbrev F_tree_at : FuncId := 44
abbrev F_slices_Backward_Lany_any : FuncId := 45
abbrev F_scope_Scope_Push : FuncId := 46
abbrev F_scope_Scope_All : FuncId := 47
abbrev F_ref15_ScopeAt : FuncId := 48
abbrev F_ref10_Scope_Bound : FuncId := 49
abbrev F_build_New : FuncId := 50
abbrev F_space_Shape : FuncId := 51
abbrev F_space_Steps : FuncId := 52
abbrev F_space_width : FuncId := 53
abbrev F_ref10_Declares : FuncId := 54
abbrev F_ref10_Scope_URI : FuncId := 55
abbrev F_scope_Scope_Depth : FuncId := 56
abbrev F_tree_chars : FuncId := 57
abbrev F_strings_Contains : FuncId := 58
abbrev F_strings_HasSuffix : FuncId := 59
abbrev F_token_Target : FuncId := 60
abbrev F_token_Spaces : FuncId := 61
abbrev F_tree_named : FuncId := 62
abbrev F_slices_Clone_Lapi_Attr_api_Attr : FuncId := 63
abbrev F_slices_ContainsFunc_Lapi_Attr_api_Attr : FuncId := 64
abbrev F_tree_element_c1 : FuncId := 65
abbrev F_scope_Scope_Names : FuncId := 66
abbrev F_slices_Equal_Lapi_Attr_api_Attr : FuncId := 67
abbrev F_ref15_named : FuncId := 68
abbrev F_ref1_Valid : FuncId := 69
abbrev F_ref15_holds : FuncId := 70
abbrev F_ref10_Target : FuncId := 71
abbrev F_ref1_Space : FuncId := 72
abbrev F_slices_Backward_Lany_any_c1 : FuncId := 73
abbrev F_scope_Declares : FuncId := 74
abbrev F_scope_wrong : FuncId := 75
abbrev F_scope_Scope_Push_c1 : FuncId := 76
abbrev F_scope_Scope_level : FuncId := 77
abbrev F_slices_Sort_Lstring_string : FuncId := 78
abbrev F_slices_Compact_Lstring_string : FuncId := 79
abbrev F_scope_Scope_URI : FuncId := 80
abbrev F_build_packed : FuncId := 81
abbrev F_paren_New : FuncId := 82
abbrev F_build_shape : FuncId := 83
abbrev F_wave_New : FuncId := 84
abbrev F_pool_New : FuncId := 85
abbrev F_slices_Max_Lint_int : FuncId := 86
abbrev F_build_Doc_Len : FuncId := 87
abbrev F_wave_Wave_Size : FuncId := 88
abbrev F_doc_Has : FuncId := 89
abbrev F_doc_Parent : FuncId := 90
abbrev F_doc_Next : FuncId := 91
abbrev F_doc_Prev : FuncId := 92
abbrev F_doc_Count : FuncId := 93
abbrev F_paren_Paren_Steps : FuncId := 94
abbrev F_wave_Wave_Steps : FuncId := 95
abbrev F_ints_Width : FuncId := 96
abbrev F_text_Valid : FuncId := 97
abbrev F_strings_Index : FuncId := 98
abbrev F_internal_stringslite_HasSuffix : FuncId := 99
abbrev F_runes_NCName : FuncId := 100
abbrev F_strings_EqualFold : FuncId := 101
abbrev F_runes_Space : FuncId := 102
abbrev F_runes_Split : FuncId := 103
abbrev F_tree_full : FuncId := 104
abbrev F_slices_IndexFunc_Lapi_Attr_api_Attr : FuncId := 105
abbrev F_ref1_Split : FuncId := 106
abbrev F_ref15_qname : FuncId := 107
abbrev F_ref1_One : FuncId := 108
abbrev F_ref1_Char : FuncId := 109
abbrev F_ref1_NCName : FuncId := 110
abbrev F_ref10_lower : FuncId := 111
abbrev F_slices_pdqsortOrdered_string : FuncId := 112
abbrev F_math_bits_Len : FuncId := 113
abbrev F_strings_Builder_WriteString : FuncId := 114
abbrev F_strconv_Itoa : FuncId := 115
abbrev F_strings_Builder_String : FuncId := 116
abbrev F_paren_May : FuncId := 117
abbrev F_bits_New : FuncId := 118
abbrev F_offs_New : FuncId := 119
abbrev F_strings_Join : FuncId := 120
abbrev F_paren_Paren_Len : FuncId := 121
abbrev F_bits_Bound : FuncId := 122
abbrev F_doc_at : FuncId := 123
abbrev F_paren_Paren_Number : FuncId := 124
abbrev F_paren_Paren_Enclose : FuncId := 125
abbrev F_paren_Paren_Close : FuncId := 126
abbrev F_paren_Paren_Begin : FuncId := 127
abbrev F_paren_Paren_Span : FuncId := 128
abbrev F_math_bits_Len64 : FuncId := 129
abbrev F_runes_Char : FuncId := 130
abbrev F_unicode_utf8_Valid : FuncId := 131
abbrev F_internal_stringslite_Index : FuncId := 132
abbrev F_runes_Name : FuncId := 133
abbrev F_unicode_utf8_DecodeRuneInString : FuncId := 134
abbrev F_unicode_SimpleFold : FuncId := 135
abbrev F_strings_Cut : FuncId := 136
abbrev F_ref1_in : FuncId := 137
abbrev F_ref1_Name : FuncId := 138
abbrev F_slices_insertionSortOrdered_string : FuncId := 139
abbrev F_slices_heapSortOrdered_string : FuncId := 140
abbrev F_slices_breakPatternsOrdered_string : FuncId := 141
abbrev F_slices_choosePivotOrdered_string : FuncId := 142
abbrev F_slices_reverseRangeOrdered_string : FuncId := 143
abbrev F_slices_partialInsertionSortOrdered_string : FuncId := 144
abbrev F_cmp_Less_string : FuncId := 145
abbrev F_slices_partitionEqualOrdered_string : FuncId := 146
abbrev F_slices_partitionOrdered_string : FuncId := 147
abbrev F_math_bits_Len32 : FuncId := 148
abbrev F_strings_Builder_copyCheck : FuncId := 149
abbrev F_internal_strconv_Itoa : FuncId := 150
abbrev F_math_bits_OnesCount64 : FuncId := 151
abbrev F_ints_New : FuncId := 152
abbrev F_strings_Builder_Grow : FuncId := 153
abbrev F_bits_Bits_Len : FuncId := 154
abbrev F_paren_Paren_Place : FuncId := 155
abbrev F_paren_Paren_Open : FuncId := 156
abbrev F_bits_Bits_Rank : FuncId := 157
abbrev F_paren_Paren_Up : FuncId := 158
abbrev F_paren_Paren_forward : FuncId := 159
abbrev F_paren_Paren_upto : FuncId := 160
abbrev F_paren_Paren_closes : FuncId := 161
abbrev F_paren_Paren_backward : FuncId := 162
abbrev F_runes_in : FuncId := 163
abbrev F_runes_chars : FuncId := 164
abbrev F_unicode_utf8_word_Lbyte : FuncId := 165
abbrev F_internal_stringslite_IndexByte : FuncId := 166
abbrev F_internal_bytealg_IndexString : FuncId := 167
abbrev F_internal_bytealg_Cutover : FuncId := 168
abbrev F_internal_bytealg_IndexRabinKarp_string : FuncId := 169
abbrev F_runes_Start : FuncId := 170
abbrev F_runes_Part : FuncId := 171
abbrev F_unicode_utf8_ValidString : FuncId := 172
abbrev F_unicode_utf8_decodeRuneInStringSlow : FuncId := 173
abbrev F_unicode_lookupCaseRange : FuncId := 174
abbrev F_unicode_convertCase : FuncId := 175
abbrev F_internal_stringslite_Cut : FuncId := 176
abbrev F_ref1_Run : FuncId := 177
abbrev F_slices_siftDownOrdered_string : FuncId := 178
abbrev F_slices_nextPowerOfTwo : FuncId := 179
abbrev F_slices_xorshift_Next : FuncId := 180
abbrev F_slices_medianAdjacentOrdered_string : FuncId := 181
abbrev F_slices_medianOrdered_string : FuncId := 182
abbrev F_cmp_isNaN_string : FuncId := 183
abbrev F_internal_abi_NoEscape : FuncId := 184
abbrev F_internal_strconv_FormatInt : FuncId := 185
abbrev F_slices_Max_Luint64_uint64 : FuncId := 186
abbrev F_strings_Builder_grow : FuncId := 187
abbrev F_bits_Bits_Select : FuncId := 188
abbrev F_bits_Bits_Get : FuncId := 189
abbrev F_bits_Bits_at : FuncId := 190
abbrev F_paren_Paren_ahead : FuncId := 191
abbrev F_paren_Paren_low : FuncId := 192
abbrev F_paren_Paren_behind : FuncId := 193
abbrev F_internal_bytealg_IndexByteString : FuncId := 194
abbrev F_internal_bytealg_hashStr_string : FuncId := 195
abbrev F_runes_starts : FuncId := 196
abbrev F_runes_parts : FuncId := 197
abbrev F_unicode_utf8_word_string : FuncId := 198
abbrev F_ref1_Part : FuncId := 199
abbrev F_ref1_Start : FuncId := 200
abbrev F_slices_order2Ordered_string : FuncId := 201
abbrev F_internal_strconv_small : FuncId := 202
abbrev F_internal_strconv_numDigits : FuncId := 203
abbrev F_internal_strconv_formatBase10 : FuncId := 204
abbrev F_internal_strconv_formatBits : FuncId := 205
abbrev F_internal_bytealg_MakeNoZero : FuncId := 206
abbrev F_math_bits_TrailingZeros64 : FuncId := 207
abbrev F_internal_strconv_log10Pow2 : FuncId := 208
abbrev F_internal_strconv_bool2_int : FuncId := 209
abbrev F_internal_strconv_isPowerOfTwo : FuncId := 210
abbrev F_math_bits_TrailingZeros : FuncId := 211
abbrev F_math_bits_TrailingZeros32 : FuncId := 212
abbrev F_runtime_boundsError_Error : FuncId := 213
abbrev F_runtime_boundsError_RuntimeError : FuncId := 214
abbrev F_runtime_errorString_Error : FuncId := 215
abbrev F_runtime_errorString_RuntimeError : FuncId := 216
abbrev F_runtime_plainError_Error : FuncId := 217
abbrev F_runtime_plainError_RuntimeError : FuncId := 218
abbrev F_runtime_errorAddressString_Error : FuncId := 219
abbrev F_runtime_errorAddressString_RuntimeError : FuncId := 220
abbrev F_runtime_TypeAssertionError_Error : FuncId := 221
abbrev F_runtime_TypeAssertionError_RuntimeError : FuncId := 222
abbrev F_runtime_PanicNilError_Error : FuncId := 223
abbrev F_runtime_PanicNilError_RuntimeError : FuncId := 224
abbrev F_internal_abi_Type_Align : FuncId := 225
abbrev F_internal_runtime_maps_unhashableTypeError_Error : FuncId := 226
abbrev F_internal_runtime_maps_unhashableTypeError_RuntimeError : FuncId := 227
abbrev F_wave_Wave_Len : FuncId := 228
abbrev F_pool_Pool_Bytes : FuncId := 229
abbrev F_strings_Builder_Reset : FuncId := 230
abbrev F_offs_Offs_Len : FuncId := 231
abbrev F_ints_Ints_Len : FuncId := 232
abbrev F_internal_abi_Kind_String : FuncId := 233
abbrev F_var_s_door_gosem_cut_vars_holds_initialisers_alone_see_the_manifest_s_row_cutvarsword_look_11_test_files_too : FuncId := 234
abbrev F_var_s_door_internal_strconv_uint64pow10_is_laid_by_its_own_initialiser_plain_data_look_11 : FuncId := 235
abbrev F_var_s_door_math_bits_deBruijn32tab_is_laid_by_its_own_initialiser_plain_data_look_11 : FuncId := 236
abbrev F_var_s_door_math_bits_deBruijn64tab_is_laid_by_its_own_initialiser_plain_data_look_11 : FuncId := 237
abbrev F_var_s_door_the_look_of_gosem_cut_vars_went_over_the_folder_that_the_caller_named_as_the_repository_s_root_look_11 : FuncId := 238
abbrev F_var_s_door_unicode_CaseRanges_is_laid_by_its_text_alone_pinned_1 : FuncId := 239
abbrev F_var_s_door_unicode_asciiFold_is_laid_by_its_own_initialiser_plain_data_look_11 : FuncId := 240
abbrev F_var_s_door_unicode_caseOrbit_is_laid_by_its_own_initialiser_plain_data_look_11 : FuncId := 241
abbrev F_var_s_door_unicode_utf8_acceptRanges_is_laid_by_its_own_initialiser_plain_data_look_11 : FuncId := 242
abbrev F_var_s_door_unicode_utf8_first_is_laid_by_its_text_alone_pinned_1 : FuncId := 243
abbrev F_gosem_cut_vars : FuncId := 244
abbrev G_unicode_utf8_first : Nat := 0
abbrev G_unicode_utf8_acceptRanges : Nat := 1
abbrev G_internal_bytealg_MaxLen : Nat := 2
abbrev G_unicode_asciiFold : Nat := 3
abbrev G_unicode_caseOrbit : Nat := 4
abbrev G_unicode_CaseRanges : Nat := 5
abbrev G_internal_strconv_uint64pow10 : Nat := 6
abbrev G_math_bits_deBruijn64tab : Nat := 7
abbrev G_math_bits_deBruijn32tab : Nat := 8
abbrev T_api_Node : TypeId := 29
abbrev T_ref10_Scope : TypeId := 49
abbrev T_api_Attr : TypeId := 41
abbrev T_Lapi_Attr : TypeId := 27
abbrev T_uint8 : TypeId := 5
def S_a : List Nat := [97]
def S_b : List Nat := [98]
def S_c : List Nat := [99]
def S_p : List Nat := [112]
def S_q : List Nat := [113]
def S_x : List Nat := [120]
def S_32_y_10_ : List Nat := [32, 121, 10]
def S_60__38__62__34_ : List Nat := [60, 38, 62, 34]
def S_13__9_ : List Nat := [13, 9]
def S_195__169__93__93__62_ : List Nat := [195, 169, 93, 93, 62]
def S_text : List Nat := [116, 101, 120, 116]
def S_32__45__32_ : List Nat := [32, 45, 32]
def S_60__38__62_ : List Nat := [60, 38, 62]
def S_pi : List Nat := [112, 105]
def S_d : List Nat := [100]
def Sa_32__63__32__62_ : List Nat := [97, 32, 63, 32, 62]
def S_r : List Nat := [114]
def S_u : List Nat := [117]
def S_v : List Nat := [118]
def S_xmlns : List Nat := [120, 109, 108, 110, 115]
def Shttp_58__47__47_www_46_w3_46__29_391792 : List Nat := [104, 116, 116, 112, 58, 47, 47, 119, 119, 119, 46, 119, 51, 46, 111, 114, 103, 47, 50, 48, 48, 48, 47, 120, 109, 108, 110, 115, 47]
def S_w : List Nat := [119]
def S_1 : List Nat := [49]
def S_32__10__9_ : List Nat := [32, 10, 9]
def S_60__34__38__62_ : List Nat := [60, 34, 38, 62]
def S_13_ : List Nat := [13]
def S_2 : List Nat := [50]
def S_xml : List Nat := [120, 109, 108]
def S_id : List Nat := [105, 100]
def S_i : List Nat := [105]
def Shttp_58__47__47_www_46_w3_46__36_910846 : List Nat := [104, 116, 116, 112, 58, 47, 47, 119, 119, 119, 46, 119, 51, 46, 111, 114, 103, 47, 88, 77, 76, 47, 49, 57, 57, 56, 47, 110, 97, 109, 101, 115, 112, 97, 99, 101]
def S_45__45_ : List Nat := [45, 45]
def S_63__62_ : List Nat := [63, 62]
def S_58_ : List Nat := [58]
def c_law16_TreeEnds_L1 : VCode := (.seq (.seq (.reg 0 [
  ⟨some 55, .mv (.t 7), none, [], .n []⟩,
  ⟨some 56, .mv (.t 3), none, [], .n []⟩,
  ⟨some 57, .lenL (.t 56), none, [], .n []⟩,
  ⟨some 58, .bin .lss (.t 55) (.t 57), none, [], .n []⟩] [.keep [3, 4, 5, 7, 58]])
(.cond (.t 58)
(.gsk [.keep [3, 4, 5, 7]])
(.exit 2)))
(.seq (.block 3
(.seq (.reg 0 [
  ⟨some 61, .mv (.t 3), none, [], .n []⟩,
  ⟨some 62, .mv (.t 7), none, [], .n []⟩,
  ⟨some 63, .call F_tree_Parent [(.t 61), (.t 62)], none, [], .n []⟩,
  ⟨some 8, .mv (.t 63), none, [], .n []⟩] [.keep [3, 4, 5, 7, 8]])
(.seq (.reg 0 [
  ⟨some 64, .mv (.t 7), none, [], .n []⟩,
  ⟨some 65, .mv (.t 4), none, [], .n []⟩,
  ⟨some 66, .bin .gtr (.t 64) (.t 65), none, [], .n []⟩,
  ⟨some 67, .mv (.t 66), none, [], .n []⟩,
  ⟨some 68, .mv (.t 7), (some (67, true)), [], .n []⟩,
  ⟨some 69, .mv (.t 5), (some (67, true)), [], .n []⟩,
  ⟨some 70, .bin .lss (.t 68) (.t 69), (some (67, true)), [], .n []⟩,
  ⟨some 71, .pick (.t 67) (.t 70) (.c (.bool false)), none, [], .n []⟩,
  ⟨some 72, .mv (.t 7), none, [], .n []⟩,
  ⟨some 73, .mv (.t 4), none, [], .n []⟩,
  ⟨some 74, .bin .neq (.t 72) (.t 73), none, [], .n []⟩,
  ⟨some 75, .mv (.t 74), none, [], .n []⟩,
  ⟨some 76, .mv (.t 8), (some (75, true)), [], .n []⟩,
  ⟨some 77, .mv (.t 4), (some (75, true)), [], .n []⟩,
  ⟨some 78, .bin .geq (.t 76) (.t 77), (some (75, true)), [], .n []⟩,
  ⟨some 79, .pick (.t 75) (.t 78) (.c (.bool false)), none, [], .n []⟩,
  ⟨some 80, .mv (.t 79), none, [], .n []⟩,
  ⟨some 81, .mv (.t 8), (some (80, true)), [], .n []⟩,
  ⟨some 82, .mv (.t 5), (some (80, true)), [], .n []⟩,
  ⟨some 83, .bin .lss (.t 81) (.t 82), (some (80, true)), [], .n []⟩,
  ⟨some 84, .pick (.t 80) (.t 83) (.c (.bool false)), none, [], .n []⟩,
  ⟨some 85, .eq .b .neq (.t 71) (.t 84), none, [], .n []⟩] [.keep [3, 4, 5, 7, 85]])
(.cond (.t 85)
(.seq (.reg 0 [
  ⟨some 2, .mv (.c (.bool false)), none, [], .n []⟩] [.keep [2]])
.ret)
(.gsk [.keep [3, 4, 5, 7]])))))
(.reg 0 [
  ⟨some 59, .mv (.t 7), none, [], .n []⟩,
  ⟨some 60, .bin .add (.t 59) (.c (.int .i64 1)), none, [], .n []⟩,
  ⟨some 7, .mv (.t 60), none, [], .n []⟩] [.keep [3, 4, 5, 7]])))
def c_law16_TreeEnds_L0 : VCode := (.seq (.seq (.reg 0 [
  ⟨some 11, .mv (.t 4), none, [], .n []⟩,
  ⟨some 12, .mv (.t 3), none, [], .n []⟩,
  ⟨some 13, .lenL (.t 12), none, [], .n []⟩,
  ⟨some 14, .bin .lss (.t 11) (.t 13), none, [], .n []⟩] [.keep [3, 4, 14]])
(.cond (.t 14)
(.gsk [.keep [3, 4]])
(.exit 0)))
(.seq (.block 1
(.seq (.reg 0 [
  ⟨some 17, .mv (.t 3), none, [], .n []⟩,
  ⟨some 18, .mv (.t 4), none, [], .n []⟩,
  ⟨some 19, .call F_tree_End [(.t 17), (.t 18)], none, [], .n []⟩,
  ⟨some 20, .mv (.t 3), none, [], .n []⟩,
  ⟨some 21, .mv (.t 4), none, [], .n []⟩,
  ⟨some 22, .call F_tree_Parent [(.t 20), (.t 21)], none, [], .n []⟩,
  ⟨some 5, .mv (.t 19), none, [], .n []⟩,
  ⟨some 6, .mv (.t 22), none, [], .n []⟩] [.keep [3, 4, 5, 6]])
(.seq (.seq (.reg 0 [
  ⟨some 23, .mv (.t 5), none, [], .n []⟩,
  ⟨some 24, .mv (.t 4), none, [], .n []⟩,
  ⟨some 25, .bin .leq (.t 23) (.t 24), none, [], .n []⟩,
  ⟨some 26, .mv (.t 25), none, [], .n []⟩,
  ⟨some 27, .mv (.t 5), (some (26, false)), [], .n []⟩,
  ⟨some 28, .mv (.t 3), (some (26, false)), [], .n []⟩,
  ⟨some 29, .lenL (.t 28), (some (26, false)), [], .n []⟩,
  ⟨some 30, .bin .gtr (.t 27) (.t 29), (some (26, false)), [], .n []⟩,
  ⟨some 31, .pick (.t 26) (.c (.bool true)) (.t 30), none, [], .n []⟩,
  ⟨some 32, .mv (.t 31), none, [], .n []⟩,
  ⟨some 33, .mv (.t 6), (some (32, false)), [], .n []⟩,
  ⟨some 34, .mv (.t 4), (some (32, false)), [], .n []⟩,
  ⟨some 35, .bin .geq (.t 33) (.t 34), (some (32, false)), [], .n []⟩,
  ⟨some 36, .pick (.t 32) (.c (.bool true)) (.t 35), none, [], .n []⟩,
  ⟨some 37, .mv (.t 36), none, [], .n []⟩,
  ⟨some 38, .mv (.t 6), (some (37, false)), [], .n []⟩,
  ⟨some 39, .bin .lss (.t 38) (.c (.int .i64 0)), (some (37, false)), [], .n []⟩,
  ⟨some 40, .mv (.t 4), (some (37, false)), [], .n []⟩,
  ⟨some 41, .bin .eql (.t 40) (.c (.int .i64 0)), (some (37, false)), [], .n []⟩,
  ⟨some 42, .eq .b .neq (.t 39) (.t 41), (some (37, false)), [], .n []⟩,
  ⟨some 43, .pick (.t 37) (.c (.bool true)) (.t 42), none, [], .n []⟩,
  ⟨some 44, .mv (.t 43), none, [], .n []⟩,
  ⟨some 45, .mv (.t 6), (some (44, false)), [], .n []⟩,
  ⟨some 46, .bin .geq (.t 45) (.c (.int .i64 0)), (some (44, false)), [], .n []⟩,
  ⟨some 47, .mv (.t 46), (some (44, false)), [], .n []⟩,
  ⟨some 48, .mv (.t 3), (some (47, true)), [], .n []⟩,
  ⟨some 49, .mv (.t 6), (some (47, true)), [], .n []⟩,
  ⟨some 50, .call F_tree_End [(.t 48), (.t 49)], (some (47, true)), [], .n []⟩,
  ⟨some 51, .mv (.t 5), (some (47, true)), [], .n []⟩,
  ⟨some 52, .bin .lss (.t 50) (.t 51), (some (47, true)), [], .n []⟩,
  ⟨some 53, .pick (.t 47) (.t 52) (.c (.bool false)), (some (44, false)), [], .n []⟩,
  ⟨some 54, .pick (.t 44) (.c (.bool true)) (.t 53), none, [], .n []⟩] [.keep [3, 4, 5, 54]])
(.cond (.t 54)
(.seq (.reg 0 [
  ⟨some 2, .mv (.c (.bool false)), none, [], .n []⟩] [.keep [2]])
.ret)
(.gsk [.keep [3, 4, 5]])))
(.seq (.reg 0 [
  ⟨some 7, .mv (.c (.int .i64 0)), none, [], .n []⟩] [.keep [3, 4, 5, 7]])
(.block 2
(.loop c_law16_TreeEnds_L1))))))
(.reg 0 [
  ⟨some 15, .mv (.t 4), none, [], .n []⟩,
  ⟨some 16, .bin .add (.t 15) (.c (.int .i64 1)), none, [], .n []⟩,
  ⟨some 4, .mv (.t 16), none, [], .n []⟩] [.keep [3, 4]])))
def c_law16_TreeEnds : VCode := (.seq (.reg 0 [
  ⟨some 2, .mv (.c (.bool false)), none, [], .n []⟩] [.keep [0]])
(.seq (.reg 0 [
  ⟨some 9, .mv (.t 0), none, [], .n []⟩,
  ⟨some 10, .call F_law16_Make [(.t 9)], none, [], .n []⟩,
  ⟨some 3, .mv (.t 10), none, [], .n []⟩] [.keep [3]])
(.seq (.seq (.reg 0 [
  ⟨some 4, .mv (.c (.int .i64 0)), none, [], .n []⟩] [.keep [3, 4]])
(.block 0
(.loop c_law16_TreeEnds_L0)))
(.seq (.reg 0 [
  ⟨some 86, .call F_law16_told [], none, [], .n []⟩,
  ⟨some 87, .mv (.t 86), none, [], .n []⟩,
  ⟨some 88, .mv (.t 3), (some (87, true)), [], .n []⟩,
  ⟨some 89, .mv (.t 3), (some (87, true)), [], .n []⟩,
  ⟨some 90, .lenL (.t 89), (some (87, true)), [], .n []⟩,
  ⟨some 91, .call F_tree_End [(.t 88), (.t 90)], (some (87, true)), [], .n []⟩,
  ⟨some 92, .bin .eql (.t 91) (.c (.int .i64 (-1))), (some (87, true)), [], .n []⟩,
  ⟨some 93, .pick (.t 87) (.t 92) (.c (.bool false)), none, [], .n []⟩,
  ⟨some 94, .mv (.t 93), none, [], .n []⟩,
  ⟨some 95, .mv (.t 3), (some (94, true)), [], .n []⟩,
  ⟨some 96, .mv (.t 3), (some (94, true)), [], .n []⟩,
  ⟨some 97, .lenL (.t 96), (some (94, true)), [], .n []⟩,
  ⟨some 98, .call F_tree_Parent [(.t 95), (.t 97)], (some (94, true)), [], .n []⟩,
  ⟨some 99, .bin .eql (.t 98) (.c (.int .i64 (-1))), (some (94, true)), [], .n []⟩,
  ⟨some 100, .pick (.t 94) (.t 99) (.c (.bool false)), none, [], .n []⟩,
  ⟨some 2, .mv (.t 100), none, [], .n []⟩] [.keep [2]])
.ret))))
def r_law16_TreeEnds : List VRes := [.tmp 2]
theorem k_law16_TreeEnds : Fits Tryz.prog F_law16_TreeEnds c_law16_TreeEnds r_law16_TreeEnds := .of Tryz.func6 (by kernel_rfl)
def c_law16_Make_L1 : VCode := (.seq (.seq (.reg 0 [
  ⟨some 70, .mv (.t 4), none, [], .n []⟩,
  ⟨some 71, .nilck (.t 70), none, [], .n []⟩,
  ⟨some 72, .off (.t 71) 0, none, [], .n []⟩,
  ⟨some 73, .load (.t 72) false 1, none, [], .n []⟩,
  ⟨some 74, .lenL (.t 73), none, [], .n []⟩,
  ⟨some 75, .mv (.t 10), none, [], .n []⟩,
  ⟨some 76, .bin .geq (.t 74) (.t 75), none, [], .n []⟩] [.keep [0, 3, 4, 5, 6, 7, 8, 10, 76]])
(.cond (.t 76)
(.gsk [.keep [0, 3, 4, 5, 6, 7, 8, 10]])
(.exit 2)))
(.block 3
(.reg 0 [
  ⟨some 77, .mv (.t 4), none, [], .n []⟩,
  ⟨some 78, .call F_ref10_Scope_Pop [(.t 77)], none, [], .n []⟩] [.keep [0, 3, 4, 5, 6, 7, 8, 10]])))
def c_law16_Make_R24 : VCode := (.seq (.reg 0 [
  ⟨some 106, .buildF 1 4 [(.str [])] [(0, (.c (.str S_a))), (1, (.c (.str S_b))), (2, (.c (.str S_c))), (3, (.c (.str S_a)))], none, [], .n []⟩,
  ⟨some 107, .mv (.t 7), none, [], .n []⟩,
  ⟨some 108, .bin .quo (.t 107) (.c (.int .u64 8)), none, [], .n []⟩,
  ⟨some 109, .bin .rem (.t 108) (.c (.int .u64 4)), none, [], .n []⟩,
  ⟨some 110, .idx 1 (.t 106) (.t 109), none, [], .n []⟩,
  ⟨some 111, .load (.t 110) false 1, none, [], .n []⟩,
  ⟨some 112, .off (.t 11) 0, none, [], .n []⟩,
  ⟨none, .store (.t 112) (.c (.int .i64 2)) 1, none, [], .n []⟩,
  ⟨some 113, .off (.t 11) 3, none, [], .n []⟩,
  ⟨none, .store (.t 113) (.t 111) 1, none, [], .n []⟩] [.keep [0, 3, 4, 5, 6, 7, 10, 11]])
(.seq (.reg 0 [
  ⟨some 114, .mv (.t 7), none, [], .n []⟩,
  ⟨some 115, .bin .quo (.t 114) (.c (.int .u64 32)), none, [], .n []⟩,
  ⟨some 116, .call F_law16_attrs [(.t 115)], none, [], .n []⟩,
  ⟨some 117, .off (.t 11) 6, none, [], .n []⟩,
  ⟨none, .store (.t 117) (.t 116) 1, none, [], .n []⟩] [.keep [0, 3, 4, 5, 6, 7, 10, 11]])
(.seq (.reg 0 [
  ⟨some 118, .buildF 1 4 [(.str [])] [(0, (.c (.str []))), (1, (.c (.str []))), (2, (.c (.str S_p))), (3, (.c (.str S_q)))], none, [], .n []⟩,
  ⟨some 119, .mv (.t 7), none, [], .n []⟩,
  ⟨some 120, .bin .quo (.t 119) (.c (.int .u64 256)), none, [], .n []⟩,
  ⟨some 121, .bin .rem (.t 120) (.c (.int .u64 4)), none, [], .n []⟩,
  ⟨some 122, .idx 1 (.t 118) (.t 121), none, [], .n []⟩,
  ⟨some 123, .load (.t 122) false 1, none, [], .n []⟩,
  ⟨some 124, .off (.t 11) 2, none, [], .n []⟩,
  ⟨none, .store (.t 124) (.t 123) 1, none, [], .n []⟩] [.keep [0, 3, 4, 5, 6, 10, 11]])
(.seq (.seq (.reg 0 [
  ⟨some 125, .mv (.t 4), none, [], .n []⟩,
  ⟨some 126, .off (.t 11) 6, none, [], .n []⟩,
  ⟨some 127, .load (.t 126) false 1, none, [], .n []⟩,
  ⟨some 128, .call F_ref10_Scope_Push [(.t 125), (.t 127)], none, [], .n []⟩,
  ⟨some 129, .bin .neq (.t 128) (.c (.int .i64 0)), none, [], .n []⟩] [.keep [0, 3, 4, 5, 6, 10, 11, 129]])
(.cond (.t 129)
(.exit 1)
(.gsk [.keep [0, 3, 4, 5, 6, 10, 11]])))
(.seq (.seq (.reg 0 [
  ⟨some 130, .mv (.t 4), none, [], .n []⟩,
  ⟨some 131, .call F_ref15_Names [(.t 130), (.t 11)], none, [], .n []⟩,
  ⟨some 132, .un .not (.t 131), none, [], .n []⟩] [.keep [0, 3, 4, 5, 6, 10, 11, 132]])
(.cond (.t 132)
(.seq (.reg 0 [
  ⟨some 133, .mv (.t 4), none, [], .n []⟩,
  ⟨some 134, .call F_ref10_Scope_Pop [(.t 133)], none, [], .n []⟩] [.keep [0, 3, 4, 5, 6, 10, 11]])
(.seq (.reg 0 [
  ⟨some 135, .off (.t 11) 2, none, [], .n []⟩,
  ⟨none, .store (.t 135) (.c (.str [])) 1, none, [], .n []⟩,
  ⟨some 136, .off (.t 11) 6, none, [], .n []⟩,
  ⟨none, .store (.t 136) (.c .nils) 1, none, [], .n []⟩] [.keep [0, 3, 4, 5, 6, 10, 11]])
(.seq (.reg 0 [
  ⟨some 137, .mv (.t 4), none, [], .n []⟩,
  ⟨some 138, .call F_ref10_Scope_Push [(.t 137), (.c .nils)], none, [], .n []⟩,
  ⟨some 139, .bin .neq (.t 138) (.c (.int .i64 0)), none, [], .n []⟩,
  ⟨some 140, .mv (.t 139), none, [], .n []⟩,
  ⟨some 141, .mv (.t 4), (some (140, false)), [], .n []⟩,
  ⟨some 142, .call F_ref15_Names [(.t 141), (.t 11)], (some (140, false)), [], .n []⟩,
  ⟨some 143, .un .not (.t 142), (some (140, false)), [], .n []⟩,
  ⟨some 144, .pick (.t 140) (.c (.bool true)) (.t 143), none, [], .n []⟩] [.keep [0, 3, 4, 5, 6, 10, 11, 144]])
(.cond (.t 144)
(.exit 1)
(.gsk [.keep [0, 3, 4, 5, 6, 10, 11]])))))
(.gsk [.keep [0, 3, 4, 5, 6, 10, 11]])))
(.reg 0 [
  ⟨some 145, .mv (.t 5), none, [], .n []⟩,
  ⟨some 146, .mv (.t 145), none, [], .n []⟩,
  ⟨some 147, .mv (.t 10), (some (146, false)), [], .n []⟩,
  ⟨some 148, .bin .eql (.t 147) (.c (.int .i64 1)), (some (146, false)), [], .n []⟩,
  ⟨some 149, .pick (.t 146) (.c (.bool true)) (.t 148), none, [], .n []⟩,
  ⟨some 5, .mv (.t 149), none, [], .n []⟩] [.keep [0, 3, 4, 5, 6, 11]]))))))
def c_law16_Make_R22 : VCode := (.seq (.reg 0 [
  ⟨some 99, .mv (.t 12), none, [], .n []⟩,
  ⟨some 100, .bin .lss (.t 99) (.c (.int .u64 4)), none, [], .n []⟩,
  ⟨some 98, .mv (.t 100), none, [], .n []⟩] [.keep [0, 3, 4, 5, 6, 7, 8, 10, 11, 12, 98]])
(.cond (.t 98)
(.seq (.seq (.reg 0 [
  ⟨some 101, .mv (.t 10), none, [], .n []⟩,
  ⟨some 102, .bin .eql (.t 101) (.c (.int .i64 1)), none, [], .n []⟩,
  ⟨some 103, .mv (.t 102), none, [], .n []⟩,
  ⟨some 104, .mv (.t 5), (some (103, true)), [], .n []⟩,
  ⟨some 105, .pick (.t 103) (.t 104) (.c (.bool false)), none, [], .n []⟩] [.keep [0, 3, 4, 5, 6, 7, 10, 11, 105]])
(.cond (.t 105)
(.exit 1)
(.gsk [.keep [0, 3, 4, 5, 6, 7, 10, 11]])))
(.cut c_law16_Make_R24))
(.seq (.reg 0 [
  ⟨some 151, .mv (.t 12), none, [], .n []⟩,
  ⟨some 152, .bin .lss (.t 151) (.c (.int .u64 6)), none, [], .n []⟩,
  ⟨some 150, .mv (.t 152), none, [], .n []⟩] [.keep [0, 3, 4, 5, 6, 7, 8, 10, 11, 12, 150]])
(.cond (.t 150)
(.seq (.reg 0 [
  ⟨some 153, .buildF 1 6 [(.str [])] [(0, (.c (.str S_x))), (1, (.c (.str S_32_y_10_))), (2, (.c (.str S_60__38__62__34_))), (3, (.c (.str S_13__9_))), (4, (.c (.str S_195__169__93__93__62_))), (5, (.c (.str S_text)))], none, [], .n []⟩,
  ⟨some 154, .mv (.t 7), none, [], .n []⟩,
  ⟨some 155, .bin .quo (.t 154) (.c (.int .u64 8)), none, [], .n []⟩,
  ⟨some 156, .bin .rem (.t 155) (.c (.int .u64 6)), none, [], .n []⟩,
  ⟨some 157, .idx 1 (.t 153) (.t 156), none, [], .n []⟩,
  ⟨some 158, .load (.t 157) false 1, none, [], .n []⟩,
  ⟨some 159, .off (.t 11) 0, none, [], .n []⟩,
  ⟨none, .store (.t 159) (.c (.int .i64 3)) 1, none, [], .n []⟩,
  ⟨some 160, .off (.t 11) 5, none, [], .n []⟩,
  ⟨none, .store (.t 160) (.t 158) 1, none, [], .n []⟩] [.keep [0, 3, 4, 5, 6, 8, 10, 11]])
(.seq (.reg 0 [
  ⟨some 161, .mv (.t 10), none, [], .n []⟩,
  ⟨some 162, .bin .eql (.t 161) (.c (.int .i64 1)), none, [], .n []⟩,
  ⟨some 163, .mv (.t 162), none, [], .n []⟩,
  ⟨some 164, .off (.t 8) 0, (some (163, false)), [], .n []⟩,
  ⟨some 165, .load (.t 164) false 1, (some (163, false)), [], .n []⟩,
  ⟨some 166, .bin .eql (.t 165) (.c (.int .i64 3)), (some (163, false)), [], .n []⟩,
  ⟨some 167, .mv (.t 166), (some (163, false)), [], .n []⟩,
  ⟨some 168, .off (.t 8) 1, (some (167, true)), [], .n []⟩,
  ⟨some 169, .load (.t 168) false 1, (some (167, true)), [], .n []⟩,
  ⟨some 170, .mv (.t 10), (some (167, true)), [], .n []⟩,
  ⟨some 171, .bin .eql (.t 169) (.t 170), (some (167, true)), [], .n []⟩,
  ⟨some 172, .pick (.t 167) (.t 171) (.c (.bool false)), (some (163, false)), [], .n []⟩,
  ⟨some 173, .pick (.t 163) (.c (.bool true)) (.t 172), none, [], .n []⟩] [.keep [0, 3, 4, 5, 6, 11, 173]])
(.cond (.t 173)
(.exit 1)
(.gsk [.keep [0, 3, 4, 5, 6, 11]]))))
(.seq (.reg 0 [
  ⟨some 175, .mv (.t 12), none, [], .n []⟩,
  ⟨some 176, .bin .eql (.t 175) (.c (.int .u64 6)), none, [], .n []⟩,
  ⟨some 174, .mv (.t 176), none, [], .n []⟩] [.keep [0, 3, 4, 5, 6, 7, 11, 174]])
(.cond (.t 174)
(.reg 0 [
  ⟨some 177, .buildF 1 4 [(.str [])] [(0, (.c (.str []))), (1, (.c (.str S_c))), (2, (.c (.str S_32__45__32_))), (3, (.c (.str S_60__38__62_)))], none, [], .n []⟩,
  ⟨some 178, .mv (.t 7), none, [], .n []⟩,
  ⟨some 179, .bin .quo (.t 178) (.c (.int .u64 8)), none, [], .n []⟩,
  ⟨some 180, .bin .rem (.t 179) (.c (.int .u64 4)), none, [], .n []⟩,
  ⟨some 181, .idx 1 (.t 177) (.t 180), none, [], .n []⟩,
  ⟨some 182, .load (.t 181) false 1, none, [], .n []⟩,
  ⟨some 183, .off (.t 11) 0, none, [], .n []⟩,
  ⟨none, .store (.t 183) (.c (.int .i64 4)) 1, none, [], .n []⟩,
  ⟨some 184, .off (.t 11) 5, none, [], .n []⟩,
  ⟨none, .store (.t 184) (.t 182) 1, none, [], .n []⟩] [.keep [0, 3, 4, 5, 6, 11]])
(.reg 1 [
  ⟨some 83, .buildF 1 2 [(.str [])] [(0, (.c (.str S_pi))), (1, (.c (.str S_q)))], none, [], .n []⟩,
  ⟨some 84, .mv (.t 7), none, [], .n []⟩,
  ⟨some 85, .bin .quo (.t 84) (.c (.int .u64 8)), none, [], .n []⟩,
  ⟨some 86, .bin .rem (.t 85) (.c (.int .u64 2)), none, [], .n []⟩,
  ⟨some 87, .idx 1 (.t 83) (.t 86), none, [], .n []⟩,
  ⟨some 88, .load (.t 87) false 1, none, [], .n []⟩,
  ⟨some 89, .buildF 1 3 [(.str [])] [(0, (.c (.str []))), (1, (.c (.str S_d))), (2, (.c (.str Sa_32__63__32__62_)))], none, [], .n []⟩,
  ⟨some 90, .mv (.t 7), none, [], .n []⟩,
  ⟨some 91, .bin .quo (.t 90) (.c (.int .u64 16)), none, [], .n []⟩,
  ⟨some 92, .bin .rem (.t 91) (.c (.int .u64 3)), none, [], .n []⟩,
  ⟨some 93, .idx 1 (.t 89) (.t 92), none, [], .n []⟩,
  ⟨some 94, .load (.t 93) false 1, none, [], .n []⟩,
  ⟨some 95, .off (.t 11) 0, none, [], .n []⟩,
  ⟨none, .store (.t 95) (.c (.int .i64 5)) 1, none, [], .n []⟩,
  ⟨some 96, .off (.t 11) 3, none, [], .n []⟩,
  ⟨none, .store (.t 96) (.t 88) 1, none, [], .n []⟩,
  ⟨some 97, .off (.t 11) 5, none, [], .n []⟩,
  ⟨none, .store (.t 97) (.t 94) 1, none, [], .n []⟩] [.keep [0, 3, 4, 5, 6, 11]])))))))
def c_law16_Make_R17 : VCode := (.seq (.block 2
(.loop c_law16_Make_L1))
(.seq (.reg 0 [
  ⟨some 79, .mv (.t 10), none, [], .n []⟩,
  ⟨some 80, .build [(.int .i64 0), (.int .i64 0), (.str []), (.str []), (.str []), (.str []), .nils] [(1, 1, (.t 79))], none, [], .n []⟩,
  ⟨some 11, .allocH [(.int .i64 0), (.int .i64 0), (.str []), (.str []), (.str []), (.str []), .nils] T_api_Node, none, [], .n []⟩,
  ⟨none, .store (.t 11) (.t 80) 7, none, [], .n []⟩] [.keep [0, 3, 4, 5, 6, 7, 8, 10, 11]])
(.seq (.seq (.reg 0 [
  ⟨some 81, .mv (.t 7), none, [], .n []⟩,
  ⟨some 82, .bin .rem (.t 81) (.c (.int .u64 8)), none, [], .n []⟩,
  ⟨some 12, .mv (.t 82), none, [], .n []⟩] [.keep [0, 3, 4, 5, 6, 7, 8, 10, 11, 12]])
(.block 4
(.cut c_law16_Make_R22)))
(.reg 0 [
  ⟨some 185, .mv (.t 3), none, [], .n []⟩,
  ⟨some 186, .load (.t 11) true 7, none, [], .n []⟩,
  ⟨some 187, .buildF 7 1 [(.int .i64 0), (.int .i64 0), (.str []), (.str []), (.str []), (.str []), .nils] [(0, (.t 186))], none, [.fza 186 6 4], .n []⟩,
  ⟨some 188, .app 7 [(.int .i64 0), (.int .i64 0), (.str []), (.str []), (.str []), (.str []), .nils] 104 T_api_Node (.t 185) (.t 187), none, [], .n []⟩,
  ⟨some 3, .mv (.t 188), none, [], .n []⟩] [.keep [0, 3, 4, 5, 6]]))))
def c_law16_Make_R9 : VCode := (.seq (.reg 0 [
  ⟨some 38, .off (.t 8) 1, none, [], .n []⟩,
  ⟨some 39, .load (.t 38) false 1, none, [], .n []⟩,
  ⟨some 9, .mv (.t 39), none, [], .n []⟩] [.keep [0, 3, 4, 5, 6, 7, 8, 9]])
(.seq (.seq (.reg 0 [
  ⟨some 40, .off (.t 8) 0, none, [], .n []⟩,
  ⟨some 41, .load (.t 40) false 1, none, [], .n []⟩,
  ⟨some 42, .bin .eql (.t 41) (.c (.int .i64 2)), none, [], .n []⟩,
  ⟨some 43, .mv (.t 42), none, [], .n []⟩,
  ⟨some 44, .off (.t 8) 0, (some (43, false)), [], .n []⟩,
  ⟨some 45, .load (.t 44) false 1, (some (43, false)), [], .n []⟩,
  ⟨some 46, .bin .eql (.t 45) (.c (.int .i64 1)), (some (43, false)), [], .n []⟩,
  ⟨some 47, .pick (.t 43) (.c (.bool true)) (.t 46), none, [], .n []⟩] [.keep [0, 3, 4, 5, 6, 7, 8, 9, 47]])
(.cond (.t 47)
(.reg 0 [
  ⟨some 48, .mv (.t 9), none, [], .n []⟩,
  ⟨some 49, .bin .add (.t 48) (.c (.int .i64 1)), none, [], .n []⟩,
  ⟨some 9, .mv (.t 49), none, [], .n []⟩] [.keep [0, 3, 4, 5, 6, 7, 8, 9]])
(.gsk [.keep [0, 3, 4, 5, 6, 7, 8, 9]])))
(.seq (.reg 0 [
  ⟨some 50, .mv (.t 9), none, [], .n []⟩,
  ⟨some 51, .mv (.t 7), none, [], .n []⟩,
  ⟨some 52, .bin .quo (.t 51) (.c (.int .u64 64)), none, [], .n []⟩,
  ⟨some 53, .cint .i64 (.t 52), none, [], .n []⟩,
  ⟨some 54, .bin .rem (.t 53) (.c (.int .i64 3)), none, [], .n []⟩,
  ⟨some 55, .bin .sub (.t 50) (.t 54), none, [], .n []⟩,
  ⟨some 10, .mv (.t 55), none, [], .n []⟩] [.keep [0, 3, 4, 5, 6, 7, 8, 9, 10]])
(.seq (.seq (.reg 0 [
  ⟨some 56, .mv (.t 10), none, [], .n []⟩,
  ⟨some 57, .bin .lss (.t 56) (.c (.int .i64 1)), none, [], .n []⟩] [.keep [0, 3, 4, 5, 6, 7, 8, 9, 10, 57]])
(.cond (.t 57)
(.reg 0 [
  ⟨some 10, .mv (.c (.int .i64 1)), none, [], .n []⟩] [.keep [0, 3, 4, 5, 6, 7, 8, 9, 10]])
(.gsk [.keep [0, 3, 4, 5, 6, 7, 8, 9, 10]])))
(.seq (.seq (.reg 0 [
  ⟨some 58, .mv (.t 5), none, [], .n []⟩,
  ⟨some 59, .mv (.t 58), none, [], .n []⟩,
  ⟨some 60, .mv (.t 10), (some (59, true)), [], .n []⟩,
  ⟨some 61, .bin .lss (.t 60) (.c (.int .i64 2)), (some (59, true)), [], .n []⟩,
  ⟨some 62, .pick (.t 59) (.t 61) (.c (.bool false)), none, [], .n []⟩,
  ⟨some 63, .mv (.t 62), none, [], .n []⟩,
  ⟨some 64, .mv (.t 7), (some (63, true)), [], .n []⟩,
  ⟨some 65, .bin .rem (.t 64) (.c (.int .u64 8)), (some (63, true)), [], .n []⟩,
  ⟨some 66, .bin .lss (.t 65) (.c (.int .u64 6)), (some (63, true)), [], .n []⟩,
  ⟨some 67, .pick (.t 63) (.t 66) (.c (.bool false)), none, [], .n []⟩] [.keep [0, 3, 4, 5, 6, 7, 8, 9, 10, 67]])
(.cond (.t 67)
(.reg 0 [
  ⟨some 68, .mv (.t 9), none, [], .n []⟩,
  ⟨some 69, .mn [(.c (.int .i64 2)), (.t 68)], none, [], .n []⟩,
  ⟨some 10, .mv (.t 69), none, [], .n []⟩] [.keep [0, 3, 4, 5, 6, 7, 8, 10]])
(.gsk [.keep [0, 3, 4, 5, 6, 7, 8, 10]])))
(.cut c_law16_Make_R17))))))
def c_law16_Make_L0 : VCode := (.seq (.seq (.reg 0 [
  ⟨some 17, .mv (.t 6), none, [], .n []⟩,
  ⟨some 18, .mv (.t 0), none, [], .n []⟩,
  ⟨some 19, .lenL (.t 18), none, [], .n []⟩,
  ⟨some 20, .bin .lss (.t 17) (.t 19), none, [], .n []⟩,
  ⟨some 21, .mv (.t 20), none, [], .n []⟩,
  ⟨some 22, .mv (.t 6), (some (21, true)), [], .n []⟩,
  ⟨some 23, .bin .lss (.t 22) (.c (.int .i64 30)), (some (21, true)), [], .n []⟩,
  ⟨some 24, .pick (.t 21) (.t 23) (.c (.bool false)), none, [], .n []⟩] [.keep [0, 3, 4, 5, 6, 24]])
(.cond (.t 24)
(.gsk [.keep [0, 3, 4, 5, 6]])
(.exit 0)))
(.seq (.block 1
(.seq (.reg 0 [
  ⟨some 27, .mv (.t 0), none, [], .n []⟩,
  ⟨some 28, .mv (.t 6), none, [], .n []⟩,
  ⟨some 29, .idx 1 (.t 27) (.t 28), none, [], .n []⟩,
  ⟨some 30, .load (.t 29) false 1, none, [], .n []⟩,
  ⟨some 31, .cint .u64 (.t 30), none, [], .n []⟩,
  ⟨some 7, .mv (.t 31), none, [], .n []⟩] [.keep [0, 3, 4, 5, 6, 7]])
(.seq (.reg 0 [
  ⟨some 32, .mv (.t 3), none, [], .n []⟩,
  ⟨some 33, .mv (.t 3), none, [], .n []⟩,
  ⟨some 34, .lenL (.t 33), none, [], .n []⟩,
  ⟨some 35, .bin .sub (.t 34) (.c (.int .i64 1)), none, [], .n []⟩,
  ⟨some 36, .idx 7 (.t 32) (.t 35), none, [], .n []⟩,
  ⟨some 37, .load (.t 36) true 7, none, [], .n []⟩,
  ⟨some 8, .allocL [(.int .i64 0), (.int .i64 0), (.str []), (.str []), (.str []), (.str []), .nils], none, [], .n []⟩,
  ⟨none, .store (.t 8) (.t 37) 7, none, [], .n []⟩] [.keep [0, 3, 4, 5, 6, 7, 8]])
(.cut c_law16_Make_R9))))
(.reg 0 [
  ⟨some 25, .mv (.t 6), none, [], .n []⟩,
  ⟨some 26, .bin .add (.t 25) (.c (.int .i64 1)), none, [], .n []⟩,
  ⟨some 6, .mv (.t 26), none, [], .n []⟩] [.keep [0, 3, 4, 5, 6]])))
def c_law16_Make : VCode := (.seq (.reg 0 [
  ⟨some 2, .mv (.c .nils), none, [], .n []⟩] [.keep [0]])
(.seq (.reg 0 [
  ⟨some 13, .build [(.int .i64 0), (.int .i64 0), (.str []), (.str []), (.str []), (.str []), .nils] [(0, 1, (.c (.int .i64 1)))], none, [], .n []⟩,
  ⟨some 14, .buildH 7 1 [(.int .i64 0), (.int .i64 0), (.str []), (.str []), (.str []), (.str []), .nils] [(0, (.t 13))] T_api_Node, none, [.fza 13 6 4], .n []⟩,
  ⟨some 3, .mv (.t 14), none, [], .n []⟩] [.keep [0, 3]])
(.seq (.reg 0 [
  ⟨some 15, .build [.nils] [], none, [], .n []⟩,
  ⟨some 16, .boxH (.t 15) T_ref10_Scope, none, [.fza 15 0 1], .n []⟩,
  ⟨some 4, .mv (.t 16), none, [], .n []⟩] [.keep [0, 3, 4]])
(.seq (.reg 0 [
  ⟨some 5, .mv (.c (.bool false)), none, [], .n []⟩] [.keep [0, 3, 4, 5]])
(.seq (.seq (.reg 0 [
  ⟨some 6, .mv (.c (.int .i64 0)), none, [], .n []⟩] [.keep [0, 3, 4, 5, 6]])
(.block 0
(.loop c_law16_Make_L0)))
(.seq (.seq (.reg 0 [
  ⟨some 189, .mv (.t 5), none, [], .n []⟩,
  ⟨some 190, .un .not (.t 189), none, [], .n []⟩] [.keep [3, 190]])
(.cond (.t 190)
(.reg 0 [
  ⟨some 191, .mv (.t 3), none, [], .n []⟩,
  ⟨some 192, .build [(.int .i64 0), (.int .i64 0), (.str []), (.str []), (.str []), (.str []), .nils] [(0, 1, (.c (.int .i64 2))), (1, 1, (.c (.int .i64 1))), (3, 1, (.c (.str S_r)))], none, [], .n []⟩,
  ⟨some 193, .buildF 7 1 [(.int .i64 0), (.int .i64 0), (.str []), (.str []), (.str []), (.str []), .nils] [(0, (.t 192))], none, [.fza 192 6 4], .n []⟩,
  ⟨some 194, .app 7 [(.int .i64 0), (.int .i64 0), (.str []), (.str []), (.str []), (.str []), .nils] 104 T_api_Node (.t 191) (.t 193), none, [], .n []⟩,
  ⟨some 3, .mv (.t 194), none, [], .n []⟩] [.keep [3]])
(.gsk [.keep [3]])))
(.seq (.seq (.reg 0 [
  ⟨some 195, .mv (.t 3), none, [.fzs 3 7], .n []⟩,
  ⟨some 196, .call F_ref15_May [(.t 195)], none, [], .n []⟩,
  ⟨some 197, .un .not (.t 196), none, [], .n []⟩] [.keep [3, 197]])
(.cond (.t 197)
(.seq (.reg 0 [
  ⟨some 198, .build [(.int .i64 0), (.int .i64 0), (.str []), (.str []), (.str []), (.str []), .nils] [(0, 1, (.c (.int .i64 1)))], none, [], .n []⟩,
  ⟨some 199, .build [(.int .i64 0), (.int .i64 0), (.str []), (.str []), (.str []), (.str []), .nils] [(0, 1, (.c (.int .i64 2))), (1, 1, (.c (.int .i64 1))), (3, 1, (.c (.str S_r)))], none, [], .n []⟩,
  ⟨some 200, .buildF 7 2 [(.int .i64 0), (.int .i64 0), (.str []), (.str []), (.str []), (.str []), .nils] [(0, (.t 198)), (1, (.t 199))], none, [.fza 198 6 4, .fza 199 6 4], .n []⟩,
  ⟨some 2, .mv (.t 200), none, [], .n []⟩] [.fzs 2 7, .keep [2]])
.ret)
(.gsk [.keep [3]])))
(.seq (.reg 0 [
  ⟨some 201, .mv (.t 3), none, [], .n []⟩,
  ⟨some 2, .mv (.t 201), none, [], .n []⟩] [.keep [2]])
.ret))))))))
def r_law16_Make : List VRes := [.tmp 2]
theorem k_law16_Make : Fits Tryz.prog F_law16_Make c_law16_Make r_law16_Make := .of Tryz.func9 (by kernel_rfl)
def c_ref15_May_L1 : VCode := (.seq (.seq (.reg 1 [
  ⟨some 84, .mv (.t 3), none, [], .n []⟩,
  ⟨some 85, .nilck (.t 84), none, [], .n []⟩,
  ⟨some 86, .off (.t 85) 0, none, [], .n []⟩,
  ⟨some 87, .load (.t 86) false 1, none, [], .n []⟩,
  ⟨some 88, .lenL (.t 87), none, [], .n []⟩,
  ⟨some 89, .off (.t 6) 1, none, [], .n []⟩,
  ⟨some 90, .load (.t 89) false 1, none, [], .n []⟩,
  ⟨some 91, .bin .geq (.t 88) (.t 90), none, [], .n []⟩] [.keep [0, 3, 4, 5, 6, 91]])
(.cond (.t 91)
(.gsk [.keep [0, 3, 4, 5, 6]])
(.exit 2)))
(.block 3
(.reg 0 [
  ⟨some 92, .mv (.t 3), none, [], .n []⟩,
  ⟨some 93, .call F_ref10_Scope_Pop [(.t 92)], none, [], .n []⟩] [.keep [0, 3, 4, 5, 6]])))
def c_ref15_May_R11 : VCode := (.seq (.block 2
(.loop c_ref15_May_L1))
(.seq (.seq (.reg 0 [
  ⟨some 94, .off (.t 6) 0, none, [], .n []⟩,
  ⟨some 95, .load (.t 94) false 1, none, [], .n []⟩,
  ⟨some 96, .bin .eql (.t 95) (.c (.int .i64 2)), none, [], .n []⟩] [.keep [0, 3, 4, 5, 6, 96]])
(.cond (.t 96)
(.seq (.seq (.reg 0 [
  ⟨some 97, .mv (.t 3), none, [], .n []⟩,
  ⟨some 98, .load (.t 6) true 7, none, [], .n []⟩,
  ⟨some 99, .call F_ref15_element [(.t 97), (.t 98)], none, [], .n []⟩,
  ⟨some 100, .un .not (.t 99), none, [], .n []⟩] [.keep [0, 3, 4, 5, 6, 100]])
(.cond (.t 100)
(.seq (.reg 0 [
  ⟨some 2, .mv (.c (.bool false)), none, [], .n []⟩] [.keep [2]])
.ret)
(.gsk [.keep [0, 3, 4, 5, 6]])))
(.seq (.seq (.reg 0 [
  ⟨some 101, .off (.t 6) 1, none, [], .n []⟩,
  ⟨some 102, .load (.t 101) false 1, none, [], .n []⟩,
  ⟨some 103, .bin .eql (.t 102) (.c (.int .i64 1)), none, [], .n []⟩] [.keep [0, 3, 4, 5, 103]])
(.cond (.t 103)
(.reg 0 [
  ⟨some 104, .mv (.t 4), none, [], .n []⟩,
  ⟨some 105, .bin .add (.t 104) (.c (.int .i64 1)), none, [], .n []⟩,
  ⟨some 4, .mv (.t 105), none, [], .n []⟩] [.keep [0, 3, 4, 5]])
(.gsk [.keep [0, 3, 4, 5]])))
(.exit 1)))
(.gsk [.keep [0, 3, 4, 5, 6]])))
(.seq (.reg 1 [
  ⟨some 106, .load (.t 6) true 7, none, [], .n []⟩,
  ⟨some 107, .call F_ref15_plain [(.t 106)], none, [], .n []⟩,
  ⟨some 108, .un .not (.t 107), none, [], .n []⟩,
  ⟨some 109, .mv (.t 108), none, [], .n []⟩,
  ⟨some 110, .off (.t 6) 0, (some (109, false)), [], .n []⟩,
  ⟨some 111, .load (.t 110) false 1, (some (109, false)), [], .n []⟩,
  ⟨some 112, .bin .eql (.t 111) (.c (.int .i64 3)), (some (109, false)), [], .n []⟩,
  ⟨some 113, .mv (.t 112), (some (109, false)), [], .n []⟩,
  ⟨some 114, .off (.t 6) 1, (some (113, true)), [], .n []⟩,
  ⟨some 115, .load (.t 114) false 1, (some (113, true)), [], .n []⟩,
  ⟨some 116, .bin .eql (.t 115) (.c (.int .i64 1)), (some (113, true)), [], .n []⟩,
  ⟨some 117, .mv (.t 116), (some (113, true)), [], .n []⟩,
  ⟨some 118, .mv (.t 0), (some (117, false)), [], .n []⟩,
  ⟨some 119, .mv (.t 5), (some (117, false)), [], .n []⟩,
  ⟨some 120, .bin .sub (.t 119) (.c (.int .i64 1)), (some (117, false)), [], .n []⟩,
  ⟨some 121, .idx 7 (.t 118) (.t 120), (some (117, false)), [], .n []⟩,
  ⟨some 122, .off (.t 121) 0, (some (117, false)), [], .n []⟩,
  ⟨some 123, .load (.t 122) false 1, (some (117, false)), [], .n []⟩,
  ⟨some 124, .bin .eql (.t 123) (.c (.int .i64 3)), (some (117, false)), [], .n []⟩,
  ⟨some 125, .mv (.t 124), (some (117, false)), [], .n []⟩,
  ⟨some 126, .mv (.t 0), (some (125, true)), [], .n []⟩,
  ⟨some 127, .mv (.t 5), (some (125, true)), [], .n []⟩,
  ⟨some 128, .bin .sub (.t 127) (.c (.int .i64 1)), (some (125, true)), [], .n []⟩,
  ⟨some 129, .idx 7 (.t 126) (.t 128), (some (125, true)), [], .n []⟩,
  ⟨some 130, .off (.t 129) 1, (some (125, true)), [], .n []⟩,
  ⟨some 131, .load (.t 130) false 1, (some (125, true)), [], .n []⟩,
  ⟨some 132, .off (.t 6) 1, (some (125, true)), [], .n []⟩,
  ⟨some 133, .load (.t 132) false 1, (some (125, true)), [], .n []⟩,
  ⟨some 134, .bin .eql (.t 131) (.t 133), (some (125, true)), [], .n []⟩,
  ⟨some 135, .pick (.t 125) (.t 134) (.c (.bool false)), (some (117, false)), [], .n []⟩,
  ⟨some 136, .pick (.t 117) (.c (.bool true)) (.t 135), (some (113, true)), [], .n []⟩,
  ⟨some 137, .pick (.t 113) (.t 136) (.c (.bool false)), (some (109, false)), [], .n []⟩,
  ⟨some 138, .pick (.t 109) (.c (.bool true)) (.t 137), none, [], .n []⟩] [.keep [0, 3, 4, 5, 138]])
(.cond (.t 138)
(.seq (.reg 0 [
  ⟨some 2, .mv (.c (.bool false)), none, [], .n []⟩] [.keep [2]])
.ret)
(.gsk [.keep [0, 3, 4, 5]])))))
def c_ref15_May_L0 : VCode := (.seq (.seq (.reg 0 [
  ⟨some 25, .mv (.t 5), none, [], .n []⟩,
  ⟨some 26, .mv (.t 0), none, [], .n []⟩,
  ⟨some 27, .lenL (.t 26), none, [], .n []⟩,
  ⟨some 28, .bin .lss (.t 25) (.t 27), none, [], .n []⟩] [.keep [0, 3, 4, 5, 28]])
(.cond (.t 28)
(.gsk [.keep [0, 3, 4, 5]])
(.exit 0)))
(.seq (.block 1
(.seq (.reg 0 [
  ⟨some 31, .mv (.t 0), none, [], .n []⟩,
  ⟨some 32, .mv (.t 5), none, [], .n []⟩,
  ⟨some 33, .idx 7 (.t 31) (.t 32), none, [], .n []⟩,
  ⟨some 34, .load (.t 33) true 7, none, [], .n []⟩,
  ⟨some 6, .allocL [(.int .i64 0), (.int .i64 0), (.str []), (.str []), (.str []), (.str []), .nils], none, [], .n []⟩,
  ⟨none, .store (.t 6) (.t 34) 7, none, [], .n []⟩] [.keep [0, 3, 4, 5, 6]])
(.seq (.seq (.reg 1 [
  ⟨some 35, .off (.t 6) 1, none, [], .n []⟩,
  ⟨some 36, .load (.t 35) false 1, none, [], .n []⟩,
  ⟨some 37, .bin .lss (.t 36) (.c (.int .i64 1)), none, [], .n []⟩,
  ⟨some 38, .mv (.t 37), none, [], .n []⟩,
  ⟨some 39, .off (.t 6) 1, (some (38, false)), [], .n []⟩,
  ⟨some 40, .load (.t 39) false 1, (some (38, false)), [], .n []⟩,
  ⟨some 41, .bin .gtr (.t 40) (.c (.int .i64 201)), (some (38, false)), [], .n []⟩,
  ⟨some 42, .pick (.t 38) (.c (.bool true)) (.t 41), none, [], .n []⟩,
  ⟨some 43, .mv (.t 42), none, [], .n []⟩,
  ⟨some 44, .off (.t 6) 1, (some (43, false)), [], .n []⟩,
  ⟨some 45, .load (.t 44) false 1, (some (43, false)), [], .n []⟩,
  ⟨some 46, .mv (.t 0), (some (43, false)), [], .n []⟩,
  ⟨some 47, .mv (.t 5), (some (43, false)), [], .n []⟩,
  ⟨some 48, .bin .sub (.t 47) (.c (.int .i64 1)), (some (43, false)), [], .n []⟩,
  ⟨some 49, .idx 7 (.t 46) (.t 48), (some (43, false)), [], .n []⟩,
  ⟨some 50, .off (.t 49) 1, (some (43, false)), [], .n []⟩,
  ⟨some 51, .load (.t 50) false 1, (some (43, false)), [], .n []⟩,
  ⟨some 52, .bin .add (.t 51) (.c (.int .i64 1)), (some (43, false)), [], .n []⟩,
  ⟨some 53, .bin .gtr (.t 45) (.t 52), (some (43, false)), [], .n []⟩,
  ⟨some 54, .pick (.t 43) (.c (.bool true)) (.t 53), none, [], .n []⟩,
  ⟨some 55, .mv (.t 54), none, [], .n []⟩,
  ⟨some 56, .off (.t 6) 1, (some (55, false)), [], .n []⟩,
  ⟨some 57, .load (.t 56) false 1, (some (55, false)), [], .n []⟩,
  ⟨some 58, .mv (.t 0), (some (55, false)), [], .n []⟩,
  ⟨some 59, .mv (.t 5), (some (55, false)), [], .n []⟩,
  ⟨some 60, .bin .sub (.t 59) (.c (.int .i64 1)), (some (55, false)), [], .n []⟩,
  ⟨some 61, .idx 7 (.t 58) (.t 60), (some (55, false)), [], .n []⟩,
  ⟨some 62, .off (.t 61) 1, (some (55, false)), [], .n []⟩,
  ⟨some 63, .load (.t 62) false 1, (some (55, false)), [], .n []⟩,
  ⟨some 64, .bin .gtr (.t 57) (.t 63), (some (55, false)), [], .n []⟩,
  ⟨some 65, .mv (.t 64), (some (55, false)), [], .n []⟩,
  ⟨some 66, .mv (.t 0), (some (65, true)), [], .n []⟩,
  ⟨some 67, .mv (.t 5), (some (65, true)), [], .n []⟩,
  ⟨some 68, .bin .sub (.t 67) (.c (.int .i64 1)), (some (65, true)), [], .n []⟩,
  ⟨some 69, .idx 7 (.t 66) (.t 68), (some (65, true)), [], .n []⟩,
  ⟨some 70, .off (.t 69) 0, (some (65, true)), [], .n []⟩,
  ⟨some 71, .load (.t 70) false 1, (some (65, true)), [], .n []⟩,
  ⟨some 72, .bin .neq (.t 71) (.c (.int .i64 1)), (some (65, true)), [], .n []⟩,
  ⟨some 73, .pick (.t 65) (.t 72) (.c (.bool false)), (some (55, false)), [], .n []⟩,
  ⟨some 74, .mv (.t 73), (some (55, false)), [], .n []⟩,
  ⟨some 75, .mv (.t 0), (some (74, true)), [], .n []⟩,
  ⟨some 76, .mv (.t 5), (some (74, true)), [], .n []⟩,
  ⟨some 77, .bin .sub (.t 76) (.c (.int .i64 1)), (some (74, true)), [], .n []⟩,
  ⟨some 78, .idx 7 (.t 75) (.t 77), (some (74, true)), [], .n []⟩,
  ⟨some 79, .off (.t 78) 0, (some (74, true)), [], .n []⟩,
  ⟨some 80, .load (.t 79) false 1, (some (74, true)), [], .n []⟩,
  ⟨some 81, .bin .neq (.t 80) (.c (.int .i64 2)), (some (74, true)), [], .n []⟩,
  ⟨some 82, .pick (.t 74) (.t 81) (.c (.bool false)), (some (55, false)), [], .n []⟩,
  ⟨some 83, .pick (.t 55) (.c (.bool true)) (.t 82), none, [], .n []⟩] [.keep [0, 3, 4, 5, 6, 83]])
(.cond (.t 83)
(.seq (.reg 0 [
  ⟨some 2, .mv (.c (.bool false)), none, [], .n []⟩] [.keep [2]])
.ret)
(.gsk [.keep [0, 3, 4, 5, 6]])))
(.cut c_ref15_May_R11))))
(.reg 0 [
  ⟨some 29, .mv (.t 5), none, [], .n []⟩,
  ⟨some 30, .bin .add (.t 29) (.c (.int .i64 1)), none, [], .n []⟩,
  ⟨some 5, .mv (.t 30), none, [], .n []⟩] [.keep [0, 3, 4, 5]])))
def c_ref15_May : VCode := (.seq (.reg 0 [
  ⟨some 2, .mv (.c (.bool false)), none, [], .n []⟩] [.keep [0]])
(.seq (.seq (.reg 0 [
  ⟨some 7, .mv (.t 0), none, [], .n []⟩,
  ⟨some 8, .lenL (.t 7), none, [], .n []⟩,
  ⟨some 9, .bin .lss (.t 8) (.c (.int .i64 1)), none, [], .n []⟩,
  ⟨some 10, .mv (.t 9), none, [], .n []⟩,
  ⟨some 11, .mv (.t 0), (some (10, false)), [], .n []⟩,
  ⟨some 12, .lenL (.t 11), (some (10, false)), [], .n []⟩,
  ⟨some 13, .bin .gtr (.t 12) (.c (.int .i64 1048576)), (some (10, false)), [], .n []⟩,
  ⟨some 14, .pick (.t 10) (.c (.bool true)) (.t 13), none, [], .n []⟩,
  ⟨some 15, .mv (.t 14), none, [], .n []⟩,
  ⟨some 16, .mv (.t 0), (some (15, false)), [], .n []⟩,
  ⟨some 17, .idx 7 (.t 16) (.c (.int .i64 0)), (some (15, false)), [], .n []⟩,
  ⟨some 18, .load (.t 17) true 7, (some (15, false)), [], .n []⟩,
  ⟨some 19, .build [(.int .i64 0), (.int .i64 0), (.str []), (.str []), (.str []), (.str []), .nils] [(0, 1, (.c (.int .i64 1)))], (some (15, false)), [], .n []⟩,
  ⟨some 20, .call F_ref15_SameNode [(.t 18), (.t 19)], (some (15, false)), [], .n []⟩,
  ⟨some 21, .un .not (.t 20), (some (15, false)), [], .n []⟩,
  ⟨some 22, .pick (.t 15) (.c (.bool true)) (.t 21), none, [], .n []⟩] [.keep [0, 22]])
(.cond (.t 22)
(.seq (.reg 0 [
  ⟨some 2, .mv (.c (.bool false)), none, [], .n []⟩] [.keep [2]])
.ret)
(.gsk [.keep [0]])))
(.seq (.reg 0 [
  ⟨some 23, .build [.nils] [], none, [], .n []⟩,
  ⟨some 24, .boxH (.t 23) T_ref10_Scope, none, [.fza 23 0 1], .n []⟩,
  ⟨some 3, .mv (.t 24), none, [], .n []⟩] [.keep [0, 3]])
(.seq (.reg 0 [
  ⟨some 4, .mv (.c (.int .i64 0)), none, [], .n []⟩] [.keep [0, 3, 4]])
(.seq (.seq (.reg 0 [
  ⟨some 5, .mv (.c (.int .i64 1)), none, [], .n []⟩] [.keep [0, 3, 4, 5]])
(.block 0
(.loop c_ref15_May_L0)))
(.seq (.reg 0 [
  ⟨some 139, .mv (.t 4), none, [], .n []⟩,
  ⟨some 140, .bin .eql (.t 139) (.c (.int .i64 1)), none, [], .n []⟩,
  ⟨some 2, .mv (.t 140), none, [], .n []⟩] [.keep [2]])
.ret))))))
def r_ref15_May : List VRes := [.tmp 2]
theorem k_ref15_May : Fits Tryz.prog F_ref15_May c_ref15_May r_ref15_May := .of Tryz.func13 (by kernel_rfl)
def c_tree_Parent_L0 : VCode := (.seq (.seq (.reg 0 [
  ⟨some 16, .mv (.t 6), none, [], .n []⟩,
  ⟨some 17, .mv (.t 16), none, [], .n []⟩,
  ⟨some 18, .mv (.t 7), (some (17, true)), [], .n []⟩,
  ⟨some 19, .bin .geq (.t 18) (.c (.int .i64 0)), (some (17, true)), [], .n []⟩,
  ⟨some 20, .pick (.t 17) (.t 19) (.c (.bool false)), none, [], .n []⟩] [.keep [0, 5, 6, 7, 20]])
(.cond (.t 20)
(.gsk [.keep [0, 5, 6, 7]])
(.exit 0)))
(.seq (.block 1
(.seq (.reg 1 [
  ⟨some 23, .mv (.t 0), none, [], .n []⟩,
  ⟨some 24, .mv (.t 7), none, [], .n []⟩,
  ⟨some 25, .idx 7 (.t 23) (.t 24), none, [], .n []⟩,
  ⟨some 26, .off (.t 25) 1, none, [], .n []⟩,
  ⟨some 27, .load (.t 26) false 1, none, [], .n []⟩,
  ⟨some 28, .off (.t 5) 1, none, [], .n []⟩,
  ⟨some 29, .load (.t 28) false 1, none, [], .n []⟩,
  ⟨some 30, .bin .lss (.t 27) (.t 29), none, [], .n []⟩] [.keep [0, 5, 6, 7, 30]])
(.cond (.t 30)
(.seq (.reg 0 [
  ⟨some 31, .mv (.t 7), none, [], .n []⟩,
  ⟨some 4, .mv (.t 31), none, [], .n []⟩] [.keep [4]])
.ret)
(.gsk [.keep [0, 5, 6, 7]]))))
(.reg 0 [
  ⟨some 21, .mv (.t 7), none, [], .n []⟩,
  ⟨some 22, .bin .sub (.t 21) (.c (.int .i64 1)), none, [], .n []⟩,
  ⟨some 7, .mv (.t 22), none, [], .n []⟩] [.keep [0, 5, 6, 7]])))
def c_tree_Parent : VCode := (.seq (.reg 0 [
  ⟨some 4, .mv (.c (.int .i64 0)), none, [], .n []⟩] [.keep [0, 1]])
(.seq (.reg 0 [
  ⟨some 9, .mv (.t 0), none, [], .n []⟩,
  ⟨some 10, .mv (.t 1), none, [], .n []⟩,
  ⟨some 11, .call F_tree_at [(.t 9), (.t 10)], none, [], .n []⟩,
  ⟨some 8, .mv (.t 11), none, [], .n []⟩,
  ⟨some 12, .ext (.t 8) 0, none, [], .n []⟩,
  ⟨some 13, .ext (.t 8) 1, none, [], .n []⟩,
  ⟨some 5, .allocL [(.int .i64 0), (.int .i64 0), (.str []), (.str []), (.str []), (.str []), .nils], none, [], .n []⟩,
  ⟨none, .store (.t 5) (.t 12) 7, none, [], .n []⟩,
  ⟨some 6, .mv (.t 13), none, [], .n []⟩] [.keep [0, 1, 5, 6]])
(.seq (.seq (.reg 0 [
  ⟨some 14, .mv (.t 1), none, [], .n []⟩,
  ⟨some 15, .bin .sub (.t 14) (.c (.int .i64 1)), none, [], .n []⟩,
  ⟨some 7, .mv (.t 15), none, [], .n []⟩] [.keep [0, 5, 6, 7]])
(.block 0
(.loop c_tree_Parent_L0)))
(.seq (.reg 0 [
  ⟨some 4, .mv (.c (.int .i64 (-1))), none, [], .n []⟩] [.keep [4]])
.ret))))
def r_tree_Parent : List VRes := [.tmp 4]
theorem k_tree_Parent : Fits Tryz.prog F_tree_Parent c_tree_Parent r_tree_Parent := .of Tryz.func19 (by kernel_rfl)
def c_tree_End_L0 : VCode := (.seq (.seq (.reg 1 [
  ⟨some 17, .mv (.t 1), none, [], .n []⟩,
  ⟨some 18, .mv (.t 0), none, [], .n []⟩,
  ⟨some 19, .lenL (.t 18), none, [], .n []⟩,
  ⟨some 20, .bin .lss (.t 17) (.t 19), none, [], .n []⟩,
  ⟨some 21, .mv (.t 20), none, [], .n []⟩,
  ⟨some 22, .mv (.t 0), (some (21, true)), [], .n []⟩,
  ⟨some 23, .mv (.t 1), (some (21, true)), [], .n []⟩,
  ⟨some 24, .idx 7 (.t 22) (.t 23), (some (21, true)), [], .n []⟩,
  ⟨some 25, .off (.t 24) 1, (some (21, true)), [], .n []⟩,
  ⟨some 26, .load (.t 25) false 1, (some (21, true)), [], .n []⟩,
  ⟨some 27, .off (.t 5) 1, (some (21, true)), [], .n []⟩,
  ⟨some 28, .load (.t 27) false 1, (some (21, true)), [], .n []⟩,
  ⟨some 29, .bin .gtr (.t 26) (.t 28), (some (21, true)), [], .n []⟩,
  ⟨some 30, .pick (.t 21) (.t 29) (.c (.bool false)), none, [], .n []⟩] [.keep [0, 1, 5, 30]])
(.cond (.t 30)
(.gsk [.keep [0, 1, 5]])
(.exit 0)))
(.block 1
(.reg 0 [
  ⟨some 31, .mv (.t 1), none, [], .n []⟩,
  ⟨some 32, .bin .add (.t 31) (.c (.int .i64 1)), none, [], .n []⟩,
  ⟨some 1, .mv (.t 32), none, [], .n []⟩] [.keep [0, 1, 5]])))
def c_tree_End : VCode := (.seq (.reg 0 [
  ⟨some 4, .mv (.c (.int .i64 0)), none, [], .n []⟩] [.keep [0, 1]])
(.seq (.reg 0 [
  ⟨some 8, .mv (.t 0), none, [], .n []⟩,
  ⟨some 9, .mv (.t 1), none, [], .n []⟩,
  ⟨some 10, .call F_tree_at [(.t 8), (.t 9)], none, [], .n []⟩,
  ⟨some 7, .mv (.t 10), none, [], .n []⟩,
  ⟨some 11, .ext (.t 7) 0, none, [], .n []⟩,
  ⟨some 12, .ext (.t 7) 1, none, [], .n []⟩,
  ⟨some 5, .allocL [(.int .i64 0), (.int .i64 0), (.str []), (.str []), (.str []), (.str []), .nils], none, [], .n []⟩,
  ⟨none, .store (.t 5) (.t 11) 7, none, [], .n []⟩,
  ⟨some 6, .mv (.t 12), none, [], .n []⟩] [.keep [0, 1, 5, 6]])
(.seq (.seq (.reg 0 [
  ⟨some 13, .mv (.t 6), none, [], .n []⟩,
  ⟨some 14, .un .not (.t 13), none, [], .n []⟩] [.keep [0, 1, 5, 14]])
(.cond (.t 14)
(.seq (.reg 0 [
  ⟨some 4, .mv (.c (.int .i64 (-1))), none, [], .n []⟩] [.keep [4]])
.ret)
(.gsk [.keep [0, 1, 5]])))
(.seq (.seq (.reg 0 [
  ⟨some 15, .mv (.t 1), none, [], .n []⟩,
  ⟨some 16, .bin .add (.t 15) (.c (.int .i64 1)), none, [], .n []⟩,
  ⟨some 1, .mv (.t 16), none, [], .n []⟩] [.keep [0, 1, 5]])
(.block 0
(.loop c_tree_End_L0)))
(.seq (.reg 0 [
  ⟨some 33, .mv (.t 1), none, [], .n []⟩,
  ⟨some 4, .mv (.t 33), none, [], .n []⟩] [.keep [4]])
.ret)))))
def r_tree_End : List VRes := [.tmp 4]
theorem k_tree_End : Fits Tryz.prog F_tree_End c_tree_End r_tree_End := .of Tryz.func21 (by kernel_rfl)
def c_ref10_SameAttrs_L0 : VCode := (.seq (.seq (.reg 0 [
  ⟨some 11, .mv (.t 5), none, [], .n []⟩,
  ⟨some 12, .mv (.t 0), none, [], .n []⟩,
  ⟨some 13, .lenL (.t 12), none, [], .n []⟩,
  ⟨some 14, .bin .lss (.t 11) (.t 13), none, [], .n []⟩] [.keep [0, 1, 5, 14]])
(.cond (.t 14)
(.gsk [.keep [0, 1, 5]])
(.exit 0)))
(.seq (.block 1
(.seq (.reg 1 [
  ⟨some 17, .mv (.t 0), none, [], .n []⟩,
  ⟨some 18, .mv (.t 5), none, [], .n []⟩,
  ⟨some 19, .idx 4 (.t 17) (.t 18), none, [], .n []⟩,
  ⟨some 20, .load (.t 19) true 4, none, [], .n []⟩,
  ⟨some 21, .mv (.t 1), none, [], .n []⟩,
  ⟨some 22, .mv (.t 5), none, [], .n []⟩,
  ⟨some 23, .idx 4 (.t 21) (.t 22), none, [], .n []⟩,
  ⟨some 24, .load (.t 23) true 4, none, [], .n []⟩,
  ⟨some 25, .eq (.t 4) .neq (.t 20) (.t 24), none, [], .n []⟩] [.keep [0, 1, 5, 25]])
(.cond (.t 25)
(.seq (.reg 0 [
  ⟨some 4, .mv (.c (.bool false)), none, [], .n []⟩] [.keep [4]])
.ret)
(.gsk [.keep [0, 1, 5]]))))
(.reg 0 [
  ⟨some 15, .mv (.t 5), none, [], .n []⟩,
  ⟨some 16, .bin .add (.t 15) (.c (.int .i64 1)), none, [], .n []⟩,
  ⟨some 5, .mv (.t 16), none, [], .n []⟩] [.keep [0, 1, 5]])))
def c_ref10_SameAttrs : VCode := (.seq (.reg 0 [
  ⟨some 4, .mv (.c (.bool false)), none, [], .n []⟩] [.keep [0, 1]])
(.seq (.seq (.reg 0 [
  ⟨some 6, .mv (.t 0), none, [], .n []⟩,
  ⟨some 7, .lenL (.t 6), none, [], .n []⟩,
  ⟨some 8, .mv (.t 1), none, [], .n []⟩,
  ⟨some 9, .lenL (.t 8), none, [], .n []⟩,
  ⟨some 10, .bin .neq (.t 7) (.t 9), none, [], .n []⟩] [.keep [0, 1, 10]])
(.cond (.t 10)
(.seq (.reg 0 [
  ⟨some 4, .mv (.c (.bool false)), none, [], .n []⟩] [.keep [4]])
.ret)
(.gsk [.keep [0, 1]])))
(.seq (.seq (.reg 0 [
  ⟨some 5, .mv (.c (.int .i64 0)), none, [], .n []⟩] [.keep [0, 1, 5]])
(.block 0
(.loop c_ref10_SameAttrs_L0)))
(.seq (.reg 0 [
  ⟨some 4, .mv (.c (.bool true)), none, [], .n []⟩] [.keep [4]])
.ret))))
def r_ref10_SameAttrs : List VRes := [.tmp 4]
theorem k_ref10_SameAttrs : Fits Tryz.prog F_ref10_SameAttrs c_ref10_SameAttrs r_ref10_SameAttrs := .of Tryz.func23 (by kernel_rfl)
def c_ref10_Scope_Pop : VCode := (.seq (.reg 0 [
  ⟨some 2, .mv (.c (.bool false)), none, [], .n []⟩] [.keep [0]])
(.seq (.seq (.reg 0 [
  ⟨some 3, .mv (.t 0), none, [], .n []⟩,
  ⟨some 4, .nilck (.t 3), none, [], .n []⟩,
  ⟨some 5, .off (.t 4) 0, none, [], .n []⟩,
  ⟨some 6, .load (.t 5) false 1, none, [], .n []⟩,
  ⟨some 7, .lenL (.t 6), none, [], .n []⟩,
  ⟨some 8, .bin .eql (.t 7) (.c (.int .i64 0)), none, [], .n []⟩] [.keep [0, 8]])
(.cond (.t 8)
(.seq (.reg 0 [
  ⟨some 2, .mv (.c (.bool false)), none, [], .n []⟩] [.keep [2]])
.ret)
(.gsk [.keep [0]])))
(.seq (.reg 1 [
  ⟨some 9, .mv (.t 0), none, [], .n []⟩,
  ⟨some 10, .mv (.t 0), none, [], .n []⟩,
  ⟨some 11, .nilck (.t 10), none, [], .n []⟩,
  ⟨some 12, .off (.t 11) 0, none, [], .n []⟩,
  ⟨some 13, .load (.t 12) false 1, none, [], .n []⟩,
  ⟨some 14, .mv (.t 0), none, [], .n []⟩,
  ⟨some 15, .nilck (.t 14), none, [], .n []⟩,
  ⟨some 16, .off (.t 15) 0, none, [], .n []⟩,
  ⟨some 17, .load (.t 16) false 1, none, [], .n []⟩,
  ⟨some 18, .lenL (.t 17), none, [], .n []⟩,
  ⟨some 19, .bin .sub (.t 18) (.c (.int .i64 1)), none, [], .n []⟩,
  ⟨some 20, .cutL 1 (.t 13) none (some (.t 19)) none, none, [], .n []⟩,
  ⟨some 21, .nilck (.t 9), none, [], .n []⟩,
  ⟨some 22, .off (.t 21) 0, none, [], .n []⟩,
  ⟨none, .store (.t 22) (.t 20) 1, none, [], .n []⟩] [.keep []])
(.seq (.reg 0 [
  ⟨some 2, .mv (.c (.bool true)), none, [], .n []⟩] [.keep [2]])
.ret))))
def r_ref10_Scope_Pop : List VRes := [.tmp 2]
theorem k_ref10_Scope_Pop : Fits Tryz.prog F_ref10_Scope_Pop c_ref10_Scope_Pop r_ref10_Scope_Pop := .of Tryz.func30 (by kernel_rfl)
def c_law16_attrs_R12 : VCode := (.seq (.seq (.reg 0 [
  ⟨some 57, .mv (.t 0), none, [], .n []⟩,
  ⟨some 58, .bin .and (.t 57) (.c (.int .u64 256)), none, [], .n []⟩,
  ⟨some 59, .bin .eql (.t 58) (.c (.int .u64 256)), none, [], .n []⟩] [.keep [3, 59]])
(.cond (.t 59)
(.reg 0 [
  ⟨some 60, .mv (.t 3), none, [], .n []⟩,
  ⟨some 61, .build [(.str []), (.str []), (.str []), (.str [])] [(0, 1, (.c (.str S_xmlns))), (1, 1, (.c (.str S_q))), (2, 1, (.c (.str Shttp_58__47__47_www_46_w3_46__29_391792))), (3, 1, (.c (.str S_u)))], none, [], .n []⟩,
  ⟨some 62, .buildF 4 1 [(.str []), (.str []), (.str []), (.str [])] [(0, (.t 61))], none, [], .n []⟩,
  ⟨some 63, .app 4 [(.str []), (.str []), (.str []), (.str [])] 64 T_api_Attr (.t 60) (.t 62), none, [], .n []⟩,
  ⟨some 3, .mv (.t 63), none, [], .n []⟩] [.keep [3]])
(.gsk [.keep [3]])))
(.seq (.reg 0 [
  ⟨some 64, .mv (.t 3), none, [], .n []⟩,
  ⟨some 2, .mv (.t 64), none, [], .n []⟩] [.keep [2]])
.ret))
def c_law16_attrs_R10 : VCode := (.seq (.seq (.reg 0 [
  ⟨some 50, .mv (.t 0), none, [], .n []⟩,
  ⟨some 51, .bin .and (.t 50) (.c (.int .u64 128)), none, [], .n []⟩,
  ⟨some 52, .bin .eql (.t 51) (.c (.int .u64 128)), none, [], .n []⟩] [.keep [0, 3, 52]])
(.cond (.t 52)
(.reg 0 [
  ⟨some 53, .mv (.t 3), none, [], .n []⟩,
  ⟨some 54, .build [(.str []), (.str []), (.str []), (.str [])] [(0, 1, (.c (.str S_xml))), (1, 1, (.c (.str S_id))), (3, 1, (.c (.str S_i)))], none, [], .n []⟩,
  ⟨some 55, .buildF 4 1 [(.str []), (.str []), (.str []), (.str [])] [(0, (.t 54))], none, [], .n []⟩,
  ⟨some 56, .app 4 [(.str []), (.str []), (.str []), (.str [])] 64 T_api_Attr (.t 53) (.t 55), none, [], .n []⟩,
  ⟨some 3, .mv (.t 56), none, [], .n []⟩] [.keep [0, 3]])
(.gsk [.keep [0, 3]])))
(.cut c_law16_attrs_R12))
def c_law16_attrs_R8 : VCode := (.seq (.seq (.reg 0 [
  ⟨some 43, .mv (.t 0), none, [], .n []⟩,
  ⟨some 44, .bin .and (.t 43) (.c (.int .u64 64)), none, [], .n []⟩,
  ⟨some 45, .bin .eql (.t 44) (.c (.int .u64 64)), none, [], .n []⟩] [.keep [0, 3, 45]])
(.cond (.t 45)
(.reg 0 [
  ⟨some 46, .mv (.t 3), none, [], .n []⟩,
  ⟨some 47, .build [(.str []), (.str []), (.str []), (.str [])] [(0, 1, (.c (.str S_p))), (1, 1, (.c (.str S_x))), (3, 1, (.c (.str S_2)))], none, [], .n []⟩,
  ⟨some 48, .buildF 4 1 [(.str []), (.str []), (.str []), (.str [])] [(0, (.t 47))], none, [], .n []⟩,
  ⟨some 49, .app 4 [(.str []), (.str []), (.str []), (.str [])] 64 T_api_Attr (.t 46) (.t 48), none, [], .n []⟩,
  ⟨some 3, .mv (.t 49), none, [], .n []⟩] [.keep [0, 3]])
(.gsk [.keep [0, 3]])))
(.cut c_law16_attrs_R10))
def c_law16_attrs_R6 : VCode := (.seq (.seq (.reg 0 [
  ⟨some 30, .mv (.t 0), none, [], .n []⟩,
  ⟨some 31, .bin .and (.t 30) (.c (.int .u64 16)), none, [], .n []⟩,
  ⟨some 32, .bin .eql (.t 31) (.c (.int .u64 16)), none, [], .n []⟩] [.keep [0, 3, 32]])
(.cond (.t 32)
(.reg 0 [
  ⟨some 33, .mv (.t 3), none, [], .n []⟩,
  ⟨some 34, .buildF 1 4 [(.str [])] [(0, (.c (.str S_1))), (1, (.c (.str S_32__10__9_))), (2, (.c (.str S_60__34__38__62_))), (3, (.c (.str S_13_)))], none, [], .n []⟩,
  ⟨some 35, .mv (.t 0), none, [], .n []⟩,
  ⟨some 36, .bin .quo (.t 35) (.c (.int .u64 32)), none, [], .n []⟩,
  ⟨some 37, .bin .rem (.t 36) (.c (.int .u64 4)), none, [], .n []⟩,
  ⟨some 38, .idx 1 (.t 34) (.t 37), none, [], .n []⟩,
  ⟨some 39, .load (.t 38) false 1, none, [], .n []⟩,
  ⟨some 40, .build [(.str []), (.str []), (.str []), (.str [])] [(1, 1, (.c (.str S_x))), (3, 1, (.t 39))], none, [], .n []⟩,
  ⟨some 41, .buildF 4 1 [(.str []), (.str []), (.str []), (.str [])] [(0, (.t 40))], none, [], .n []⟩,
  ⟨some 42, .app 4 [(.str []), (.str []), (.str []), (.str [])] 64 T_api_Attr (.t 33) (.t 41), none, [], .n []⟩,
  ⟨some 3, .mv (.t 42), none, [], .n []⟩] [.keep [0, 3]])
(.gsk [.keep [0, 3]])))
(.cut c_law16_attrs_R8))
def c_law16_attrs_R4 : VCode := (.seq (.seq (.reg 0 [
  ⟨some 17, .mv (.t 0), none, [], .n []⟩,
  ⟨some 18, .bin .and (.t 17) (.c (.int .u64 4)), none, [], .n []⟩,
  ⟨some 19, .bin .eql (.t 18) (.c (.int .u64 4)), none, [], .n []⟩] [.keep [0, 3, 19]])
(.cond (.t 19)
(.reg 0 [
  ⟨some 20, .mv (.t 3), none, [], .n []⟩,
  ⟨some 21, .buildF 1 3 [(.str [])] [(0, (.c (.str S_u))), (1, (.c (.str []))), (2, (.c (.str S_w)))], none, [], .n []⟩,
  ⟨some 22, .mv (.t 0), none, [], .n []⟩,
  ⟨some 23, .bin .quo (.t 22) (.c (.int .u64 8)), none, [], .n []⟩,
  ⟨some 24, .bin .rem (.t 23) (.c (.int .u64 3)), none, [], .n []⟩,
  ⟨some 25, .idx 1 (.t 21) (.t 24), none, [], .n []⟩,
  ⟨some 26, .load (.t 25) false 1, none, [], .n []⟩,
  ⟨some 27, .build [(.str []), (.str []), (.str []), (.str [])] [(1, 1, (.c (.str S_xmlns))), (2, 1, (.c (.str Shttp_58__47__47_www_46_w3_46__29_391792))), (3, 1, (.t 26))], none, [], .n []⟩,
  ⟨some 28, .buildF 4 1 [(.str []), (.str []), (.str []), (.str [])] [(0, (.t 27))], none, [], .n []⟩,
  ⟨some 29, .app 4 [(.str []), (.str []), (.str []), (.str [])] 64 T_api_Attr (.t 20) (.t 28), none, [], .n []⟩,
  ⟨some 3, .mv (.t 29), none, [], .n []⟩] [.keep [0, 3]])
(.gsk [.keep [0, 3]])))
(.cut c_law16_attrs_R6))
def c_law16_attrs_R2 : VCode := (.seq (.seq (.reg 0 [
  ⟨some 4, .mv (.t 0), none, [], .n []⟩,
  ⟨some 5, .bin .and (.t 4) (.c (.int .u64 1)), none, [], .n []⟩,
  ⟨some 6, .bin .eql (.t 5) (.c (.int .u64 1)), none, [], .n []⟩] [.keep [0, 3, 6]])
(.cond (.t 6)
(.reg 0 [
  ⟨some 7, .mv (.t 3), none, [], .n []⟩,
  ⟨some 8, .buildF 1 2 [(.str [])] [(0, (.c (.str S_u))), (1, (.c (.str S_v)))], none, [], .n []⟩,
  ⟨some 9, .mv (.t 0), none, [], .n []⟩,
  ⟨some 10, .bin .quo (.t 9) (.c (.int .u64 2)), none, [], .n []⟩,
  ⟨some 11, .bin .rem (.t 10) (.c (.int .u64 2)), none, [], .n []⟩,
  ⟨some 12, .idx 1 (.t 8) (.t 11), none, [], .n []⟩,
  ⟨some 13, .load (.t 12) false 1, none, [], .n []⟩,
  ⟨some 14, .build [(.str []), (.str []), (.str []), (.str [])] [(0, 1, (.c (.str S_xmlns))), (1, 1, (.c (.str S_p))), (2, 1, (.c (.str Shttp_58__47__47_www_46_w3_46__29_391792))), (3, 1, (.t 13))], none, [], .n []⟩,
  ⟨some 15, .buildF 4 1 [(.str []), (.str []), (.str []), (.str [])] [(0, (.t 14))], none, [], .n []⟩,
  ⟨some 16, .app 4 [(.str []), (.str []), (.str []), (.str [])] 64 T_api_Attr (.t 7) (.t 15), none, [], .n []⟩,
  ⟨some 3, .mv (.t 16), none, [], .n []⟩] [.keep [0, 3]])
(.gsk [.keep [0, 3]])))
(.cut c_law16_attrs_R4))
def c_law16_attrs : VCode := (.seq (.reg 0 [
  ⟨some 2, .mv (.c .nils), none, [], .n []⟩] [.keep [0]])
(.seq (.reg 0 [
  ⟨some 3, .mv (.c .nils), none, [], .n []⟩] [.keep [0, 3]])
(.cut c_law16_attrs_R2)))
def r_law16_attrs : List VRes := [.tmp 2]
theorem k_law16_attrs : Fits Tryz.prog F_law16_attrs c_law16_attrs r_law16_attrs := .of Tryz.func31 (by kernel_rfl)
def c_ref10_Scope_Push_L1 : VCode := (.seq (.seq (.reg 0 [
  ⟨some 80, .mv (.t 11), none, [], .n []⟩,
  ⟨some 81, .mv (.t 5), none, [], .n []⟩,
  ⟨some 82, .lenL (.t 81), none, [], .n []⟩,
  ⟨some 83, .bin .lss (.t 80) (.t 82), none, [], .n []⟩] [.keep [0, 1, 5, 6, 11, 83]])
(.cond (.t 83)
(.gsk [.keep [0, 1, 5, 6, 11]])
(.exit 2)))
(.seq (.block 3
(.seq (.reg 1 [
  ⟨some 86, .mv (.t 5), none, [], .n []⟩,
  ⟨some 87, .mv (.t 11), none, [], .n []⟩,
  ⟨some 88, .idx 4 (.t 86) (.t 87), none, [], .n []⟩,
  ⟨some 89, .off (.t 88) 0, none, [], .n []⟩,
  ⟨some 90, .load (.t 89) false 1, none, [], .n []⟩,
  ⟨some 91, .mv (.t 1), none, [], .n []⟩,
  ⟨some 92, .mv (.t 6), none, [], .n []⟩,
  ⟨some 93, .idx 4 (.t 91) (.t 92), none, [], .n []⟩,
  ⟨some 94, .off (.t 93) 0, none, [], .n []⟩,
  ⟨some 95, .load (.t 94) false 1, none, [], .n []⟩,
  ⟨some 96, .bin .eql (.t 90) (.t 95), none, [], .n []⟩,
  ⟨some 97, .mv (.t 96), none, [], .n []⟩,
  ⟨some 98, .mv (.t 5), (some (97, true)), [], .n []⟩,
  ⟨some 99, .mv (.t 11), (some (97, true)), [], .n []⟩,
  ⟨some 100, .idx 4 (.t 98) (.t 99), (some (97, true)), [], .n []⟩,
  ⟨some 101, .off (.t 100) 1, (some (97, true)), [], .n []⟩,
  ⟨some 102, .load (.t 101) false 1, (some (97, true)), [], .n []⟩,
  ⟨some 103, .mv (.t 1), (some (97, true)), [], .n []⟩,
  ⟨some 104, .mv (.t 6), (some (97, true)), [], .n []⟩,
  ⟨some 105, .idx 4 (.t 103) (.t 104), (some (97, true)), [], .n []⟩,
  ⟨some 106, .off (.t 105) 1, (some (97, true)), [], .n []⟩,
  ⟨some 107, .load (.t 106) false 1, (some (97, true)), [], .n []⟩,
  ⟨some 108, .bin .eql (.t 102) (.t 107), (some (97, true)), [], .n []⟩,
  ⟨some 109, .pick (.t 97) (.t 108) (.c (.bool false)), none, [], .n []⟩] [.keep [0, 1, 5, 6, 11, 109]])
(.cond (.t 109)
(.seq (.reg 0 [
  ⟨some 4, .mv (.c (.int .i64 2)), none, [], .n []⟩] [.keep [4]])
.ret)
(.gsk [.keep [0, 1, 5, 6, 11]]))))
(.reg 0 [
  ⟨some 84, .mv (.t 11), none, [], .n []⟩,
  ⟨some 85, .bin .add (.t 84) (.c (.int .i64 1)), none, [], .n []⟩,
  ⟨some 11, .mv (.t 85), none, [], .n []⟩] [.keep [0, 1, 5, 6, 11]])))
def c_ref10_Scope_Push_R11 : VCode := (.seq (.seq (.reg 0 [
  ⟨some 11, .mv (.c (.int .i64 0)), none, [], .n []⟩] [.keep [0, 1, 5, 6, 11]])
(.block 2
(.loop c_ref10_Scope_Push_L1)))
(.reg 0 [
  ⟨some 110, .mv (.t 5), none, [], .n []⟩,
  ⟨some 111, .mv (.t 1), none, [], .n []⟩,
  ⟨some 112, .mv (.t 6), none, [], .n []⟩,
  ⟨some 113, .idx 4 (.t 111) (.t 112), none, [], .n []⟩,
  ⟨some 114, .load (.t 113) true 4, none, [], .n []⟩,
  ⟨some 115, .buildF 4 1 [(.str []), (.str []), (.str []), (.str [])] [(0, (.t 114))], none, [], .n []⟩,
  ⟨some 116, .app 4 [(.str []), (.str []), (.str []), (.str [])] 64 T_api_Attr (.t 110) (.t 115), none, [], .n []⟩,
  ⟨some 5, .mv (.t 116), none, [], .n []⟩] [.keep [0, 1, 5, 6]]))
def c_ref10_Scope_Push_L0 : VCode := (.seq (.seq (.reg 0 [
  ⟨some 12, .mv (.t 6), none, [], .n []⟩,
  ⟨some 13, .mv (.t 1), none, [], .n []⟩,
  ⟨some 14, .lenL (.t 13), none, [], .n []⟩,
  ⟨some 15, .bin .lss (.t 12) (.t 14), none, [], .n []⟩] [.keep [0, 1, 5, 6, 15]])
(.cond (.t 15)
(.gsk [.keep [0, 1, 5, 6]])
(.exit 0)))
(.seq (.block 1
(.seq (.reg 0 [
  ⟨some 19, .mv (.t 1), none, [], .n []⟩,
  ⟨some 20, .mv (.t 6), none, [], .n []⟩,
  ⟨some 21, .idx 4 (.t 19) (.t 20), none, [], .n []⟩,
  ⟨some 22, .load (.t 21) true 4, none, [], .n []⟩,
  ⟨some 23, .call F_ref10_Declares [(.t 22)], none, [], .n []⟩,
  ⟨some 18, .mv (.t 23), none, [], .n []⟩,
  ⟨some 24, .ext (.t 18) 0, none, [], .n []⟩,
  ⟨some 25, .ext (.t 18) 1, none, [], .n []⟩,
  ⟨some 7, .mv (.t 24), none, [], .n []⟩,
  ⟨some 8, .mv (.t 25), none, [], .n []⟩] [.keep [0, 1, 5, 6, 7, 8]])
(.seq (.seq (.reg 0 [
  ⟨some 26, .mv (.t 8), none, [], .n []⟩,
  ⟨some 27, .un .not (.t 26), none, [], .n []⟩] [.keep [0, 1, 5, 6, 7, 27]])
(.cond (.t 27)
(.exit 1)
(.gsk [.keep [0, 1, 5, 6, 7]])))
(.seq (.reg 0 [
  ⟨some 28, .mv (.t 1), none, [], .n []⟩,
  ⟨some 29, .mv (.t 6), none, [], .n []⟩,
  ⟨some 30, .idx 4 (.t 28) (.t 29), none, [], .n []⟩,
  ⟨some 31, .off (.t 30) 3, none, [], .n []⟩,
  ⟨some 32, .load (.t 31) false 1, none, [], .n []⟩,
  ⟨some 9, .mv (.t 32), none, [], .n []⟩] [.keep [0, 1, 5, 6, 7, 9]])
(.seq (.reg 0 [
  ⟨some 33, .mv (.t 1), none, [], .n []⟩,
  ⟨some 34, .mv (.t 6), none, [], .n []⟩,
  ⟨some 35, .idx 4 (.t 33) (.t 34), none, [], .n []⟩,
  ⟨some 36, .off (.t 35) 0, none, [], .n []⟩,
  ⟨some 37, .load (.t 36) false 1, none, [], .n []⟩,
  ⟨some 38, .bin .eql (.t 37) (.c (.str [])), none, [], .n []⟩,
  ⟨some 10, .mv (.t 38), none, [], .n []⟩] [.keep [0, 1, 5, 6, 7, 9, 10]])
(.seq (.seq (.reg 0 [
  ⟨some 39, .mv (.t 7), none, [], .n []⟩,
  ⟨some 40, .bin .eql (.t 39) (.c (.str S_xmlns)), none, [], .n []⟩,
  ⟨some 41, .mv (.t 40), none, [], .n []⟩,
  ⟨some 42, .mv (.t 10), (some (41, true)), [], .n []⟩,
  ⟨some 43, .un .not (.t 42), (some (41, true)), [], .n []⟩,
  ⟨some 44, .pick (.t 41) (.t 43) (.c (.bool false)), none, [], .n []⟩,
  ⟨some 45, .mv (.t 44), none, [], .n []⟩,
  ⟨some 46, .mv (.t 7), (some (45, false)), [], .n []⟩,
  ⟨some 47, .bin .eql (.t 46) (.c (.str S_xml)), (some (45, false)), [], .n []⟩,
  ⟨some 48, .mv (.t 47), (some (45, false)), [], .n []⟩,
  ⟨some 49, .mv (.t 10), (some (48, true)), [], .n []⟩,
  ⟨some 50, .un .not (.t 49), (some (48, true)), [], .n []⟩,
  ⟨some 51, .pick (.t 48) (.t 50) (.c (.bool false)), (some (45, false)), [], .n []⟩,
  ⟨some 52, .mv (.t 51), (some (45, false)), [], .n []⟩,
  ⟨some 53, .mv (.t 9), (some (52, true)), [], .n []⟩,
  ⟨some 54, .bin .neq (.t 53) (.c (.str Shttp_58__47__47_www_46_w3_46__36_910846)), (some (52, true)), [], .n []⟩,
  ⟨some 55, .pick (.t 52) (.t 54) (.c (.bool false)), (some (45, false)), [], .n []⟩,
  ⟨some 56, .pick (.t 45) (.c (.bool true)) (.t 55), none, [], .n []⟩,
  ⟨some 57, .mv (.t 56), none, [], .n []⟩,
  ⟨some 58, .mv (.t 7), (some (57, false)), [], .n []⟩,
  ⟨some 59, .bin .neq (.t 58) (.c (.str S_xml)), (some (57, false)), [], .n []⟩,
  ⟨some 60, .mv (.t 59), (some (57, false)), [], .n []⟩,
  ⟨some 61, .mv (.t 10), (some (60, false)), [], .n []⟩,
  ⟨some 62, .pick (.t 60) (.c (.bool true)) (.t 61), (some (57, false)), [], .n []⟩,
  ⟨some 63, .mv (.t 62), (some (57, false)), [], .n []⟩,
  ⟨some 64, .mv (.t 9), (some (63, true)), [], .n []⟩,
  ⟨some 65, .bin .eql (.t 64) (.c (.str Shttp_58__47__47_www_46_w3_46__36_910846)), (some (63, true)), [], .n []⟩,
  ⟨some 66, .pick (.t 63) (.t 65) (.c (.bool false)), (some (57, false)), [], .n []⟩,
  ⟨some 67, .pick (.t 57) (.c (.bool true)) (.t 66), none, [], .n []⟩,
  ⟨some 68, .mv (.t 67), none, [], .n []⟩,
  ⟨some 69, .mv (.t 9), (some (68, false)), [], .n []⟩,
  ⟨some 70, .bin .eql (.t 69) (.c (.str Shttp_58__47__47_www_46_w3_46__29_391792)), (some (68, false)), [], .n []⟩,
  ⟨some 71, .pick (.t 68) (.c (.bool true)) (.t 70), none, [], .n []⟩,
  ⟨some 72, .mv (.t 71), none, [], .n []⟩,
  ⟨some 73, .mv (.t 10), (some (72, false)), [], .n []⟩,
  ⟨some 74, .un .not (.t 73), (some (72, false)), [], .n []⟩,
  ⟨some 75, .mv (.t 74), (some (72, false)), [], .n []⟩,
  ⟨some 76, .mv (.t 9), (some (75, true)), [], .n []⟩,
  ⟨some 77, .bin .eql (.t 76) (.c (.str [])), (some (75, true)), [], .n []⟩,
  ⟨some 78, .pick (.t 75) (.t 77) (.c (.bool false)), (some (72, false)), [], .n []⟩,
  ⟨some 79, .pick (.t 72) (.c (.bool true)) (.t 78), none, [], .n []⟩] [.keep [0, 1, 5, 6, 79]])
(.cond (.t 79)
(.seq (.reg 0 [
  ⟨some 4, .mv (.c (.int .i64 2)), none, [], .n []⟩] [.keep [4]])
.ret)
(.gsk [.keep [0, 1, 5, 6]])))
(.cut c_ref10_Scope_Push_R11)))))))
(.reg 0 [
  ⟨some 16, .mv (.t 6), none, [], .n []⟩,
  ⟨some 17, .bin .add (.t 16) (.c (.int .i64 1)), none, [], .n []⟩,
  ⟨some 6, .mv (.t 17), none, [], .n []⟩] [.keep [0, 1, 5, 6]])))
def c_ref10_Scope_Push_R17 : VCode := (.seq (.reg 0 [
  ⟨some 117, .mv (.t 0), none, [], .n []⟩,
  ⟨some 118, .buildF 1 0 [.nils] [], none, [.fzs 5 4], .n []⟩,
  ⟨some 119, .mv (.t 0), none, [], .n []⟩,
  ⟨some 120, .nilck (.t 119), none, [], .n []⟩,
  ⟨some 121, .off (.t 120) 0, none, [], .n []⟩,
  ⟨some 122, .load (.t 121) false 1, none, [], .n []⟩,
  ⟨some 123, .app 1 [.nils] 24 T_Lapi_Attr (.t 118) (.t 122), none, [], .n []⟩,
  ⟨some 124, .mv (.t 5), none, [], .n []⟩,
  ⟨some 125, .buildF 1 1 [.nils] [(0, (.t 124))], none, [], .n []⟩,
  ⟨some 126, .app 1 [.nils] 24 T_Lapi_Attr (.t 123) (.t 125), none, [], .n []⟩,
  ⟨some 127, .nilck (.t 117), none, [.fzs 126 1], .n []⟩,
  ⟨some 128, .off (.t 127) 0, none, [], .n []⟩,
  ⟨none, .store (.t 128) (.t 126) 1, none, [], .n []⟩] [.keep []])
(.seq (.reg 0 [
  ⟨some 4, .mv (.c (.int .i64 0)), none, [], .n []⟩] [.keep [4]])
.ret))
def c_ref10_Scope_Push : VCode := (.seq (.reg 0 [
  ⟨some 4, .mv (.c (.int .i64 0)), none, [], .n []⟩] [.keep [0, 1]])
(.seq (.reg 0 [
  ⟨some 5, .mv (.c .nils), none, [], .n []⟩] [.keep [0, 1, 5]])
(.seq (.seq (.reg 0 [
  ⟨some 6, .mv (.c (.int .i64 0)), none, [], .n []⟩] [.keep [0, 1, 5, 6]])
(.block 0
(.loop c_ref10_Scope_Push_L0)))
(.cut c_ref10_Scope_Push_R17))))
def r_ref10_Scope_Push : List VRes := [.tmp 4]
theorem k_ref10_Scope_Push : Fits Tryz.prog F_ref10_Scope_Push c_ref10_Scope_Push r_ref10_Scope_Push := .of Tryz.func32 (by kernel_rfl)
def c_ref15_Names_L0 : VCode := (.seq (.seq (.reg 0 [
  ⟨some 30, .mv (.t 6), none, [], .n []⟩,
  ⟨some 31, .mv (.t 1), none, [], .n []⟩,
  ⟨some 32, .nilck (.t 31), none, [], .n []⟩,
  ⟨some 33, .off (.t 32) 6, none, [], .n []⟩,
  ⟨some 34, .load (.t 33) false 1, none, [], .n []⟩,
  ⟨some 35, .lenL (.t 34), none, [], .n []⟩,
  ⟨some 36, .bin .lss (.t 30) (.t 35), none, [], .n []⟩] [.keep [0, 1, 6, 36]])
(.cond (.t 36)
(.gsk [.keep [0, 1, 6]])
(.exit 0)))
(.seq (.block 1
(.seq (.seq (.reg 0 [
  ⟨some 39, .mv (.t 1), none, [], .n []⟩,
  ⟨some 40, .nilck (.t 39), none, [], .n []⟩,
  ⟨some 41, .off (.t 40) 6, none, [], .n []⟩,
  ⟨some 42, .load (.t 41) false 1, none, [], .n []⟩,
  ⟨some 43, .mv (.t 6), none, [], .n []⟩,
  ⟨some 44, .idx 4 (.t 42) (.t 43), none, [], .n []⟩,
  ⟨some 45, .off (.t 44) 2, none, [], .n []⟩,
  ⟨some 46, .load (.t 45) false 1, none, [], .n []⟩,
  ⟨some 47, .bin .eql (.t 46) (.c (.str Shttp_58__47__47_www_46_w3_46__29_391792)), none, [], .n []⟩] [.keep [0, 1, 6, 47]])
(.cond (.t 47)
(.exit 1)
(.gsk [.keep [0, 1, 6]])))
(.seq (.reg 0 [
  ⟨some 48, .mv (.t 1), none, [], .n []⟩,
  ⟨some 49, .nilck (.t 48), none, [], .n []⟩,
  ⟨some 50, .off (.t 49) 6, none, [], .n []⟩,
  ⟨some 51, .load (.t 50) false 1, none, [], .n []⟩,
  ⟨some 52, .mv (.t 6), none, [], .n []⟩,
  ⟨some 53, .idx 4 (.t 51) (.t 52), none, [], .n []⟩,
  ⟨some 54, .off (.t 53) 2, none, [], .n []⟩,
  ⟨none, .store (.t 54) (.c (.str [])) 1, none, [], .n []⟩] [.keep [0, 1, 6]])
(.seq (.seq (.reg 0 [
  ⟨some 55, .mv (.t 1), none, [], .n []⟩,
  ⟨some 56, .nilck (.t 55), none, [], .n []⟩,
  ⟨some 57, .off (.t 56) 6, none, [], .n []⟩,
  ⟨some 58, .load (.t 57) false 1, none, [], .n []⟩,
  ⟨some 59, .mv (.t 6), none, [], .n []⟩,
  ⟨some 60, .idx 4 (.t 58) (.t 59), none, [], .n []⟩,
  ⟨some 61, .off (.t 60) 0, none, [], .n []⟩,
  ⟨some 62, .load (.t 61) false 1, none, [], .n []⟩,
  ⟨some 63, .bin .eql (.t 62) (.c (.str [])), none, [], .n []⟩] [.keep [0, 1, 6, 63]])
(.cond (.t 63)
(.exit 1)
(.gsk [.keep [0, 1, 6]])))
(.seq (.reg 2 [
  ⟨some 65, .mv (.t 1), none, [], .e⟩,
  ⟨some 66, .nilck (.t 65), none, [], .e⟩,
  ⟨some 67, .off (.t 66) 6, none, [], .e⟩,
  ⟨some 68, .load (.t 67) false 1, none, [], .e⟩,
  ⟨some 69, .mv (.t 6), none, [], .n []⟩,
  ⟨some 70, .mv (.t 0), none, [], .n []⟩,
  ⟨some 71, .mv (.t 1), none, [], .n []⟩,
  ⟨some 72, .nilck (.t 71), none, [], .n []⟩,
  ⟨some 73, .off (.t 72) 6, none, [], .n []⟩,
  ⟨some 74, .load (.t 73) false 1, none, [], .n []⟩,
  ⟨some 75, .mv (.t 6), none, [], .n []⟩,
  ⟨some 76, .idx 4 (.t 74) (.t 75), none, [], .n []⟩,
  ⟨some 77, .off (.t 76) 0, none, [], .n []⟩,
  ⟨some 78, .load (.t 77) false 1, none, [], .n []⟩,
  ⟨some 79, .call F_ref10_Scope_URI [(.t 70), (.t 78)], none, [], .n [3]⟩,
  ⟨some 64, .mv (.t 79), none, [], .n []⟩,
  ⟨some 80, .ext (.t 64) 0, none, [], .n []⟩,
  ⟨some 81, .ext (.t 64) 1, none, [], .n []⟩,
  ⟨some 82, .idx 4 (.t 68) (.t 69), none, [], .n []⟩,
  ⟨some 83, .off (.t 82) 2, none, [], .n []⟩,
  ⟨none, .store (.t 83) (.t 80) 1, none, [], .n []⟩,
  ⟨some 5, .mv (.t 81), none, [], .n []⟩] [.keep [0, 1, 5, 6]])
(.seq (.reg 0 [
  ⟨some 84, .mv (.t 5), none, [], .n []⟩,
  ⟨some 85, .un .not (.t 84), none, [], .n []⟩] [.keep [0, 1, 6, 85]])
(.cond (.t 85)
(.seq (.reg 0 [
  ⟨some 4, .mv (.c (.bool false)), none, [], .n []⟩] [.keep [4]])
.ret)
(.gsk [.keep [0, 1, 6]]))))))))
(.reg 0 [
  ⟨some 37, .mv (.t 6), none, [], .n []⟩,
  ⟨some 38, .bin .add (.t 37) (.c (.int .i64 1)), none, [], .n []⟩,
  ⟨some 6, .mv (.t 38), none, [], .n []⟩] [.keep [0, 1, 6]])))
def c_ref15_Names_L2 : VCode := (.seq (.seq (.reg 0 [
  ⟨some 95, .mv (.t 8), none, [], .n []⟩,
  ⟨some 96, .mv (.t 7), none, [], .n []⟩,
  ⟨some 97, .bin .lss (.t 95) (.t 96), none, [], .n []⟩] [.keep [1, 7, 8, 97]])
(.cond (.t 97)
(.gsk [.keep [1, 7, 8]])
(.exit 4)))
(.seq (.block 5
(.seq (.reg 1 [
  ⟨some 100, .mv (.t 1), none, [], .n []⟩,
  ⟨some 101, .nilck (.t 100), none, [], .n []⟩,
  ⟨some 102, .off (.t 101) 6, none, [], .n []⟩,
  ⟨some 103, .load (.t 102) false 1, none, [], .n []⟩,
  ⟨some 104, .mv (.t 8), none, [], .n []⟩,
  ⟨some 105, .idx 4 (.t 103) (.t 104), none, [], .n []⟩,
  ⟨some 106, .off (.t 105) 2, none, [], .n []⟩,
  ⟨some 107, .load (.t 106) false 1, none, [], .n []⟩,
  ⟨some 108, .mv (.t 1), none, [], .n []⟩,
  ⟨some 109, .nilck (.t 108), none, [], .n []⟩,
  ⟨some 110, .off (.t 109) 6, none, [], .n []⟩,
  ⟨some 111, .load (.t 110) false 1, none, [], .n []⟩,
  ⟨some 112, .mv (.t 7), none, [], .n []⟩,
  ⟨some 113, .idx 4 (.t 111) (.t 112), none, [], .n []⟩,
  ⟨some 114, .off (.t 113) 2, none, [], .n []⟩,
  ⟨some 115, .load (.t 114) false 1, none, [], .n []⟩,
  ⟨some 116, .bin .eql (.t 107) (.t 115), none, [], .n []⟩,
  ⟨some 117, .mv (.t 116), none, [], .n []⟩,
  ⟨some 118, .mv (.t 1), (some (117, true)), [], .n []⟩,
  ⟨some 119, .nilck (.t 118), (some (117, true)), [], .n []⟩,
  ⟨some 120, .off (.t 119) 6, (some (117, true)), [], .n []⟩,
  ⟨some 121, .load (.t 120) false 1, (some (117, true)), [], .n []⟩,
  ⟨some 122, .mv (.t 8), (some (117, true)), [], .n []⟩,
  ⟨some 123, .idx 4 (.t 121) (.t 122), (some (117, true)), [], .n []⟩,
  ⟨some 124, .off (.t 123) 1, (some (117, true)), [], .n []⟩,
  ⟨some 125, .load (.t 124) false 1, (some (117, true)), [], .n []⟩,
  ⟨some 126, .mv (.t 1), (some (117, true)), [], .n []⟩,
  ⟨some 127, .nilck (.t 126), (some (117, true)), [], .n []⟩,
  ⟨some 128, .off (.t 127) 6, (some (117, true)), [], .n []⟩,
  ⟨some 129, .load (.t 128) false 1, (some (117, true)), [], .n []⟩,
  ⟨some 130, .mv (.t 7), (some (117, true)), [], .n []⟩,
  ⟨some 131, .idx 4 (.t 129) (.t 130), (some (117, true)), [], .n []⟩,
  ⟨some 132, .off (.t 131) 1, (some (117, true)), [], .n []⟩,
  ⟨some 133, .load (.t 132) false 1, (some (117, true)), [], .n []⟩,
  ⟨some 134, .bin .eql (.t 125) (.t 133), (some (117, true)), [], .n []⟩,
  ⟨some 135, .pick (.t 117) (.t 134) (.c (.bool false)), none, [], .n []⟩] [.keep [1, 7, 8, 135]])
(.cond (.t 135)
(.seq (.reg 0 [
  ⟨some 4, .mv (.c (.bool false)), none, [], .n []⟩] [.keep [4]])
.ret)
(.gsk [.keep [1, 7, 8]]))))
(.reg 0 [
  ⟨some 98, .mv (.t 8), none, [], .n []⟩,
  ⟨some 99, .bin .add (.t 98) (.c (.int .i64 1)), none, [], .n []⟩,
  ⟨some 8, .mv (.t 99), none, [], .n []⟩] [.keep [1, 7, 8]])))
def c_ref15_Names_L1 : VCode := (.seq (.seq (.reg 0 [
  ⟨some 86, .mv (.t 7), none, [], .n []⟩,
  ⟨some 87, .mv (.t 1), none, [], .n []⟩,
  ⟨some 88, .nilck (.t 87), none, [], .n []⟩,
  ⟨some 89, .off (.t 88) 6, none, [], .n []⟩,
  ⟨some 90, .load (.t 89) false 1, none, [], .n []⟩,
  ⟨some 91, .lenL (.t 90), none, [], .n []⟩,
  ⟨some 92, .bin .lss (.t 86) (.t 91), none, [], .n []⟩] [.keep [1, 7, 92]])
(.cond (.t 92)
(.gsk [.keep [1, 7]])
(.exit 2)))
(.seq (.block 3
(.seq (.reg 0 [
  ⟨some 8, .mv (.c (.int .i64 0)), none, [], .n []⟩] [.keep [1, 7, 8]])
(.block 4
(.loop c_ref15_Names_L2))))
(.reg 0 [
  ⟨some 93, .mv (.t 7), none, [], .n []⟩,
  ⟨some 94, .bin .add (.t 93) (.c (.int .i64 1)), none, [], .n []⟩,
  ⟨some 7, .mv (.t 94), none, [], .n []⟩] [.keep [1, 7]])))
def c_ref15_Names : VCode := (.seq (.reg 0 [
  ⟨some 4, .mv (.c (.bool false)), none, [], .n []⟩] [.keep [0, 1]])
(.seq (.reg 0 [
  ⟨some 5, .mv (.c (.bool false)), none, [], .n []⟩] [.keep [0, 1]])
(.seq (.reg 0 [
  ⟨some 10, .mv (.t 1), none, [], .n []⟩,
  ⟨some 11, .mv (.t 0), none, [], .n []⟩,
  ⟨some 12, .mv (.t 1), none, [], .n []⟩,
  ⟨some 13, .nilck (.t 12), none, [], .n []⟩,
  ⟨some 14, .off (.t 13) 2, none, [], .n []⟩,
  ⟨some 15, .load (.t 14) false 1, none, [], .n []⟩,
  ⟨some 16, .call F_ref10_Scope_URI [(.t 11), (.t 15)], none, [], .n []⟩,
  ⟨some 9, .mv (.t 16), none, [], .n []⟩,
  ⟨some 17, .ext (.t 9) 0, none, [], .n []⟩,
  ⟨some 18, .ext (.t 9) 1, none, [], .n []⟩,
  ⟨some 19, .nilck (.t 10), none, [], .n []⟩,
  ⟨some 20, .off (.t 19) 4, none, [], .n []⟩,
  ⟨none, .store (.t 20) (.t 17) 1, none, [], .n []⟩,
  ⟨some 5, .mv (.t 18), none, [], .n []⟩] [.keep [0, 1, 5]])
(.seq (.seq (.reg 0 [
  ⟨some 21, .mv (.t 5), none, [], .n []⟩,
  ⟨some 22, .un .not (.t 21), none, [], .n []⟩,
  ⟨some 23, .mv (.t 22), none, [], .n []⟩,
  ⟨some 24, .mv (.t 1), (some (23, false)), [], .n []⟩,
  ⟨some 25, .nilck (.t 24), (some (23, false)), [], .n []⟩,
  ⟨some 26, .off (.t 25) 2, (some (23, false)), [], .n []⟩,
  ⟨some 27, .load (.t 26) false 1, (some (23, false)), [], .n []⟩,
  ⟨some 28, .bin .eql (.t 27) (.c (.str S_xmlns)), (some (23, false)), [], .n []⟩,
  ⟨some 29, .pick (.t 23) (.c (.bool true)) (.t 28), none, [], .n []⟩] [.keep [0, 1, 29]])
(.cond (.t 29)
(.seq (.reg 0 [
  ⟨some 4, .mv (.c (.bool false)), none, [], .n []⟩] [.keep [4]])
.ret)
(.gsk [.keep [0, 1]])))
(.seq (.seq (.reg 0 [
  ⟨some 6, .mv (.c (.int .i64 0)), none, [], .n []⟩] [.keep [0, 1, 6]])
(.block 0
(.loop c_ref15_Names_L0)))
(.seq (.seq (.reg 0 [
  ⟨some 7, .mv (.c (.int .i64 0)), none, [], .n []⟩] [.keep [1, 7]])
(.block 2
(.loop c_ref15_Names_L1)))
(.seq (.reg 0 [
  ⟨some 4, .mv (.c (.bool true)), none, [], .n []⟩] [.keep [4]])
.ret)))))))
def r_ref15_Names : List VRes := [.tmp 4]
theorem k_ref15_Names : Fits Tryz.prog F_ref15_Names c_ref15_Names r_ref15_Names := .of Tryz.func33 (by kernel_rfl)
def c_ref15_SameNode : VCode := (.seq (.reg 0 [
  ⟨some 2, .boxL (.t 0), none, [], .n []⟩,
  ⟨some 3, .boxL (.t 1), none, [], .n []⟩,
  ⟨some 4, .mv (.c (.bool false)), none, [], .n []⟩] [.keep [2, 3]])
(.seq (.reg 0 [
  ⟨some 5, .off (.t 2) 0, none, [], .n []⟩,
  ⟨some 6, .load (.t 5) false 1, none, [], .n []⟩,
  ⟨some 7, .off (.t 3) 0, none, [], .n []⟩,
  ⟨some 8, .load (.t 7) false 1, none, [], .n []⟩,
  ⟨some 9, .bin .eql (.t 6) (.t 8), none, [], .n []⟩,
  ⟨some 10, .mv (.t 9), none, [], .n []⟩,
  ⟨some 11, .off (.t 2) 1, (some (10, true)), [], .n []⟩,
  ⟨some 12, .load (.t 11) false 1, (some (10, true)), [], .n []⟩,
  ⟨some 13, .off (.t 3) 1, (some (10, true)), [], .n []⟩,
  ⟨some 14, .load (.t 13) false 1, (some (10, true)), [], .n []⟩,
  ⟨some 15, .bin .eql (.t 12) (.t 14), (some (10, true)), [], .n []⟩,
  ⟨some 16, .pick (.t 10) (.t 15) (.c (.bool false)), none, [], .n []⟩,
  ⟨some 17, .mv (.t 16), none, [], .n []⟩,
  ⟨some 18, .off (.t 2) 2, (some (17, true)), [], .n []⟩,
  ⟨some 19, .load (.t 18) false 1, (some (17, true)), [], .n []⟩,
  ⟨some 20, .off (.t 3) 2, (some (17, true)), [], .n []⟩,
  ⟨some 21, .load (.t 20) false 1, (some (17, true)), [], .n []⟩,
  ⟨some 22, .bin .eql (.t 19) (.t 21), (some (17, true)), [], .n []⟩,
  ⟨some 23, .pick (.t 17) (.t 22) (.c (.bool false)), none, [], .n []⟩,
  ⟨some 24, .mv (.t 23), none, [], .n []⟩,
  ⟨some 25, .off (.t 2) 3, (some (24, true)), [], .n []⟩,
  ⟨some 26, .load (.t 25) false 1, (some (24, true)), [], .n []⟩,
  ⟨some 27, .off (.t 3) 3, (some (24, true)), [], .n []⟩,
  ⟨some 28, .load (.t 27) false 1, (some (24, true)), [], .n []⟩,
  ⟨some 29, .bin .eql (.t 26) (.t 28), (some (24, true)), [], .n []⟩,
  ⟨some 30, .pick (.t 24) (.t 29) (.c (.bool false)), none, [], .n []⟩,
  ⟨some 31, .mv (.t 30), none, [], .n []⟩,
  ⟨some 32, .off (.t 2) 4, (some (31, true)), [], .n []⟩,
  ⟨some 33, .load (.t 32) false 1, (some (31, true)), [], .n []⟩,
  ⟨some 34, .off (.t 3) 4, (some (31, true)), [], .n []⟩,
  ⟨some 35, .load (.t 34) false 1, (some (31, true)), [], .n []⟩,
  ⟨some 36, .bin .eql (.t 33) (.t 35), (some (31, true)), [], .n []⟩,
  ⟨some 37, .pick (.t 31) (.t 36) (.c (.bool false)), none, [], .n []⟩,
  ⟨some 38, .mv (.t 37), none, [], .n []⟩,
  ⟨some 39, .off (.t 2) 5, (some (38, true)), [], .n []⟩,
  ⟨some 40, .load (.t 39) false 1, (some (38, true)), [], .n []⟩,
  ⟨some 41, .off (.t 3) 5, (some (38, true)), [], .n []⟩,
  ⟨some 42, .load (.t 41) false 1, (some (38, true)), [], .n []⟩,
  ⟨some 43, .bin .eql (.t 40) (.t 42), (some (38, true)), [], .n []⟩,
  ⟨some 44, .pick (.t 38) (.t 43) (.c (.bool false)), none, [], .n []⟩,
  ⟨some 45, .mv (.t 44), none, [], .n []⟩,
  ⟨some 46, .off (.t 2) 6, (some (45, true)), [], .n []⟩,
  ⟨some 47, .load (.t 46) false 1, (some (45, true)), [], .n []⟩,
  ⟨some 48, .off (.t 3) 6, (some (45, true)), [], .n []⟩,
  ⟨some 49, .load (.t 48) false 1, (some (45, true)), [], .n []⟩,
  ⟨some 50, .call F_ref10_SameAttrs [(.t 47), (.t 49)], (some (45, true)), [], .n []⟩,
  ⟨some 51, .pick (.t 45) (.t 50) (.c (.bool false)), none, [], .n []⟩,
  ⟨some 4, .mv (.t 51), none, [], .n []⟩] [.keep [4]])
.ret))
def r_ref15_SameNode : List VRes := [.tmp 4]
theorem k_ref15_SameNode : Fits Tryz.prog F_ref15_SameNode c_ref15_SameNode r_ref15_SameNode := .of Tryz.func39 (by kernel_rfl)
def c_ref15_element_L1 : VCode := (.seq (.seq (.reg 0 [
  ⟨some 50, .mv (.t 8), none, [], .n []⟩,
  ⟨some 51, .mv (.t 6), none, [], .n []⟩,
  ⟨some 52, .bin .lss (.t 50) (.t 51), none, [], .n []⟩] [.keep [0, 3, 5, 6, 7, 8, 52]])
(.cond (.t 52)
(.gsk [.keep [0, 3, 5, 6, 7, 8]])
(.exit 2)))
(.seq (.block 3
(.seq (.reg 1 [
  ⟨some 55, .off (.t 5) 6, none, [], .n []⟩,
  ⟨some 56, .load (.t 55) false 1, none, [], .n []⟩,
  ⟨some 57, .mv (.t 8), none, [], .n []⟩,
  ⟨some 58, .idx 4 (.t 56) (.t 57), none, [], .n []⟩,
  ⟨some 59, .off (.t 58) 0, none, [], .n []⟩,
  ⟨some 60, .load (.t 59) false 1, none, [], .n []⟩,
  ⟨some 61, .off (.t 7) 0, none, [], .n []⟩,
  ⟨some 62, .load (.t 61) false 1, none, [], .n []⟩,
  ⟨some 63, .bin .eql (.t 60) (.t 62), none, [], .n []⟩,
  ⟨some 64, .mv (.t 63), none, [], .n []⟩,
  ⟨some 65, .off (.t 5) 6, (some (64, true)), [], .n []⟩,
  ⟨some 66, .load (.t 65) false 1, (some (64, true)), [], .n []⟩,
  ⟨some 67, .mv (.t 8), (some (64, true)), [], .n []⟩,
  ⟨some 68, .idx 4 (.t 66) (.t 67), (some (64, true)), [], .n []⟩,
  ⟨some 69, .off (.t 68) 1, (some (64, true)), [], .n []⟩,
  ⟨some 70, .load (.t 69) false 1, (some (64, true)), [], .n []⟩,
  ⟨some 71, .off (.t 7) 1, (some (64, true)), [], .n []⟩,
  ⟨some 72, .load (.t 71) false 1, (some (64, true)), [], .n []⟩,
  ⟨some 73, .bin .eql (.t 70) (.t 72), (some (64, true)), [], .n []⟩,
  ⟨some 74, .pick (.t 64) (.t 73) (.c (.bool false)), none, [], .n []⟩] [.keep [0, 3, 5, 6, 7, 8, 74]])
(.cond (.t 74)
(.seq (.reg 0 [
  ⟨some 4, .mv (.c (.bool false)), none, [], .n []⟩] [.keep [4]])
.ret)
(.gsk [.keep [0, 3, 5, 6, 7, 8]]))))
(.reg 0 [
  ⟨some 53, .mv (.t 8), none, [], .n []⟩,
  ⟨some 54, .bin .add (.t 53) (.c (.int .i64 1)), none, [], .n []⟩,
  ⟨some 8, .mv (.t 54), none, [], .n []⟩] [.keep [0, 3, 5, 6, 7, 8]])))
def c_ref15_element_L0 : VCode := (.seq (.seq (.reg 0 [
  ⟨some 26, .mv (.t 6), none, [], .n []⟩,
  ⟨some 27, .off (.t 5) 6, none, [], .n []⟩,
  ⟨some 28, .load (.t 27) false 1, none, [], .n []⟩,
  ⟨some 29, .lenL (.t 28), none, [], .n []⟩,
  ⟨some 30, .bin .lss (.t 26) (.t 29), none, [], .n []⟩] [.keep [0, 3, 5, 6, 30]])
(.cond (.t 30)
(.gsk [.keep [0, 3, 5, 6]])
(.exit 0)))
(.seq (.block 1
(.seq (.reg 0 [
  ⟨some 33, .off (.t 5) 6, none, [], .n []⟩,
  ⟨some 34, .load (.t 33) false 1, none, [], .n []⟩,
  ⟨some 35, .mv (.t 6), none, [], .n []⟩,
  ⟨some 36, .idx 4 (.t 34) (.t 35), none, [], .n []⟩,
  ⟨some 37, .load (.t 36) true 4, none, [], .n []⟩,
  ⟨some 7, .allocL [(.str []), (.str []), (.str []), (.str [])], none, [], .n []⟩,
  ⟨none, .store (.t 7) (.t 37) 4, none, [], .n []⟩] [.keep [0, 3, 5, 6, 7]])
(.seq (.seq (.reg 0 [
  ⟨some 38, .off (.t 7) 0, none, [], .n []⟩,
  ⟨some 39, .load (.t 38) false 1, none, [], .n []⟩,
  ⟨some 40, .off (.t 7) 1, none, [], .n []⟩,
  ⟨some 41, .load (.t 40) false 1, none, [], .n []⟩,
  ⟨some 42, .call F_ref15_named [(.t 39), (.t 41)], none, [], .n []⟩,
  ⟨some 43, .un .not (.t 42), none, [], .n []⟩,
  ⟨some 44, .mv (.t 43), none, [], .n []⟩,
  ⟨some 45, .off (.t 7) 3, (some (44, false)), [], .n []⟩,
  ⟨some 46, .load (.t 45) false 1, (some (44, false)), [], .n []⟩,
  ⟨some 47, .call F_ref1_Valid [(.t 46)], (some (44, false)), [], .n []⟩,
  ⟨some 48, .un .not (.t 47), (some (44, false)), [], .n []⟩,
  ⟨some 49, .pick (.t 44) (.c (.bool true)) (.t 48), none, [], .n []⟩] [.keep [0, 3, 5, 6, 7, 49]])
(.cond (.t 49)
(.seq (.reg 0 [
  ⟨some 4, .mv (.c (.bool false)), none, [], .n []⟩] [.keep [4]])
.ret)
(.gsk [.keep [0, 3, 5, 6, 7]])))
(.seq (.seq (.reg 0 [
  ⟨some 8, .mv (.c (.int .i64 0)), none, [], .n []⟩] [.keep [0, 3, 5, 6, 7, 8]])
(.block 2
(.loop c_ref15_element_L1)))
(.seq (.reg 0 [
  ⟨some 75, .off (.t 5) 6, none, [], .n []⟩,
  ⟨some 76, .load (.t 75) false 1, none, [], .n []⟩,
  ⟨some 77, .mv (.t 6), none, [], .n []⟩,
  ⟨some 78, .idx 4 (.t 76) (.t 77), none, [], .n []⟩,
  ⟨some 79, .off (.t 78) 2, none, [], .n []⟩,
  ⟨none, .store (.t 79) (.c (.str [])) 1, none, [], .n []⟩] [.keep [0, 3, 5, 6, 7]])
(.seq (.reg 0 [
  ⟨some 80, .off (.t 7) 0, none, [], .n []⟩,
  ⟨some 81, .load (.t 80) false 1, none, [], .n []⟩,
  ⟨some 82, .bin .eql (.t 81) (.c (.str S_xmlns)), none, [], .n []⟩,
  ⟨some 83, .mv (.t 82), none, [], .n []⟩,
  ⟨some 84, .off (.t 7) 0, (some (83, false)), [], .n []⟩,
  ⟨some 85, .load (.t 84) false 1, (some (83, false)), [], .n []⟩,
  ⟨some 86, .bin .eql (.t 85) (.c (.str [])), (some (83, false)), [], .n []⟩,
  ⟨some 87, .mv (.t 86), (some (83, false)), [], .n []⟩,
  ⟨some 88, .off (.t 7) 1, (some (87, true)), [], .n []⟩,
  ⟨some 89, .load (.t 88) false 1, (some (87, true)), [], .n []⟩,
  ⟨some 90, .bin .eql (.t 89) (.c (.str S_xmlns)), (some (87, true)), [], .n []⟩,
  ⟨some 91, .pick (.t 87) (.t 90) (.c (.bool false)), (some (83, false)), [], .n []⟩,
  ⟨some 92, .pick (.t 83) (.c (.bool true)) (.t 91), none, [], .n []⟩] [.keep [0, 3, 5, 6, 92]])
(.cond (.t 92)
(.reg 0 [
  ⟨some 93, .off (.t 5) 6, none, [], .n []⟩,
  ⟨some 94, .load (.t 93) false 1, none, [], .n []⟩,
  ⟨some 95, .mv (.t 6), none, [], .n []⟩,
  ⟨some 96, .idx 4 (.t 94) (.t 95), none, [], .n []⟩,
  ⟨some 97, .off (.t 96) 2, none, [], .n []⟩,
  ⟨none, .store (.t 97) (.c (.str Shttp_58__47__47_www_46_w3_46__29_391792)) 1, none, [], .n []⟩] [.keep [0, 3, 5, 6]])
(.gsk [.keep [0, 3, 5, 6]]))))))))
(.reg 0 [
  ⟨some 31, .mv (.t 6), none, [], .n []⟩,
  ⟨some 32, .bin .add (.t 31) (.c (.int .i64 1)), none, [], .n []⟩,
  ⟨some 6, .mv (.t 32), none, [], .n []⟩] [.keep [0, 3, 5, 6]])))
def c_ref15_element : VCode := (.seq (.reg 0 [
  ⟨some 3, .boxL (.t 1), none, [], .n []⟩,
  ⟨some 4, .mv (.c (.bool false)), none, [], .n []⟩] [.keep [0, 3]])
(.seq (.seq (.reg 0 [
  ⟨some 9, .off (.t 3) 2, none, [], .n []⟩,
  ⟨some 10, .load (.t 9) false 1, none, [], .n []⟩,
  ⟨some 11, .off (.t 3) 3, none, [], .n []⟩,
  ⟨some 12, .load (.t 11) false 1, none, [], .n []⟩,
  ⟨some 13, .call F_ref15_named [(.t 10), (.t 12)], none, [], .n []⟩,
  ⟨some 14, .un .not (.t 13), none, [], .n []⟩,
  ⟨some 15, .mv (.t 14), none, [], .n []⟩,
  ⟨some 16, .off (.t 3) 5, (some (15, false)), [], .n []⟩,
  ⟨some 17, .load (.t 16) false 1, (some (15, false)), [], .n []⟩,
  ⟨some 18, .bin .neq (.t 17) (.c (.str [])), (some (15, false)), [], .n []⟩,
  ⟨some 19, .pick (.t 15) (.c (.bool true)) (.t 18), none, [], .n []⟩] [.keep [0, 3, 19]])
(.cond (.t 19)
(.seq (.reg 0 [
  ⟨some 4, .mv (.c (.bool false)), none, [], .n []⟩] [.keep [4]])
.ret)
(.gsk [.keep [0, 3]])))
(.seq (.reg 0 [
  ⟨some 20, .load (.t 3) true 7, none, [], .n []⟩,
  ⟨some 5, .allocH [(.int .i64 0), (.int .i64 0), (.str []), (.str []), (.str []), (.str []), .nils] T_api_Node, none, [], .n []⟩,
  ⟨none, .store (.t 5) (.t 20) 7, none, [], .n []⟩] [.keep [0, 3, 5]])
(.seq (.reg 0 [
  ⟨some 21, .buildF 4 0 [(.str []), (.str []), (.str []), (.str [])] [], none, [], .n []⟩,
  ⟨some 22, .off (.t 3) 6, none, [], .n []⟩,
  ⟨some 23, .load (.t 22) false 1, none, [], .n []⟩,
  ⟨some 24, .app 4 [(.str []), (.str []), (.str []), (.str [])] 64 T_api_Attr (.t 21) (.t 23), none, [], .n []⟩,
  ⟨some 25, .off (.t 5) 6, none, [], .n []⟩,
  ⟨none, .store (.t 25) (.t 24) 1, none, [], .n []⟩] [.keep [0, 3, 5]])
(.seq (.seq (.reg 0 [
  ⟨some 6, .mv (.c (.int .i64 0)), none, [], .n []⟩] [.keep [0, 3, 5, 6]])
(.block 0
(.loop c_ref15_element_L0)))
(.seq (.seq (.reg 0 [
  ⟨some 98, .mv (.t 0), none, [], .n []⟩,
  ⟨some 99, .off (.t 5) 6, none, [], .n []⟩,
  ⟨some 100, .load (.t 99) false 1, none, [], .n []⟩,
  ⟨some 101, .call F_ref10_Scope_Push [(.t 98), (.t 100)], none, [], .n []⟩,
  ⟨some 102, .bin .neq (.t 101) (.c (.int .i64 0)), none, [], .n []⟩] [.keep [0, 3, 5, 102]])
(.cond (.t 102)
(.seq (.reg 0 [
  ⟨some 4, .mv (.c (.bool false)), none, [], .n []⟩] [.keep [4]])
.ret)
(.gsk [.keep [0, 3, 5]])))
(.seq (.reg 0 [
  ⟨some 103, .mv (.t 0), none, [], .n []⟩,
  ⟨some 104, .call F_ref15_Names [(.t 103), (.t 5)], none, [], .n []⟩,
  ⟨some 105, .mv (.t 104), none, [], .n []⟩,
  ⟨some 106, .off (.t 5) 4, (some (105, true)), [], .n []⟩,
  ⟨some 107, .load (.t 106) false 1, (some (105, true)), [], .n []⟩,
  ⟨some 108, .off (.t 3) 4, (some (105, true)), [], .n []⟩,
  ⟨some 109, .load (.t 108) false 1, (some (105, true)), [], .n []⟩,
  ⟨some 110, .bin .eql (.t 107) (.t 109), (some (105, true)), [], .n []⟩,
  ⟨some 111, .pick (.t 105) (.t 110) (.c (.bool false)), none, [], .n []⟩,
  ⟨some 112, .mv (.t 111), none, [], .n []⟩,
  ⟨some 113, .off (.t 5) 6, (some (112, true)), [], .n []⟩,
  ⟨some 114, .load (.t 113) false 1, (some (112, true)), [], .n []⟩,
  ⟨some 115, .off (.t 3) 6, (some (112, true)), [], .n []⟩,
  ⟨some 116, .load (.t 115) false 1, (some (112, true)), [], .n []⟩,
  ⟨some 117, .call F_ref10_SameAttrs [(.t 114), (.t 116)], (some (112, true)), [], .n []⟩,
  ⟨some 118, .pick (.t 112) (.t 117) (.c (.bool false)), none, [], .n []⟩,
  ⟨some 4, .mv (.t 118), none, [], .n []⟩] [.keep [4]])
.ret)))))))
def r_ref15_element : List VRes := [.tmp 4]
theorem k_ref15_element : Fits Tryz.prog F_ref15_element c_ref15_element r_ref15_element := .of Tryz.func40 (by kernel_rfl)
def c_ref15_plain : VCode := (.seq (.reg 0 [
  ⟨some 1, .boxL (.t 0), none, [], .n []⟩,
  ⟨some 2, .mv (.c (.bool false)), none, [], .n []⟩] [.keep [1]])
(.seq (.seq (.reg 0 [
  ⟨some 3, .off (.t 1) 2, none, [], .n []⟩,
  ⟨some 4, .load (.t 3) false 1, none, [], .n []⟩,
  ⟨some 5, .bin .neq (.t 4) (.c (.str [])), none, [], .n []⟩,
  ⟨some 6, .mv (.t 5), none, [], .n []⟩,
  ⟨some 7, .off (.t 1) 4, (some (6, false)), [], .n []⟩,
  ⟨some 8, .load (.t 7) false 1, (some (6, false)), [], .n []⟩,
  ⟨some 9, .bin .neq (.t 8) (.c (.str [])), (some (6, false)), [], .n []⟩,
  ⟨some 10, .pick (.t 6) (.c (.bool true)) (.t 9), none, [], .n []⟩,
  ⟨some 11, .mv (.t 10), none, [], .n []⟩,
  ⟨some 12, .off (.t 1) 6, (some (11, false)), [], .n []⟩,
  ⟨some 13, .load (.t 12) false 1, (some (11, false)), [], .n []⟩,
  ⟨some 14, .lenL (.t 13), (some (11, false)), [], .n []⟩,
  ⟨some 15, .bin .gtr (.t 14) (.c (.int .i64 0)), (some (11, false)), [], .n []⟩,
  ⟨some 16, .pick (.t 11) (.c (.bool true)) (.t 15), none, [], .n []⟩,
  ⟨some 17, .mv (.t 16), none, [], .n []⟩,
  ⟨some 18, .off (.t 1) 0, (some (17, false)), [], .n []⟩,
  ⟨some 19, .load (.t 18) false 1, (some (17, false)), [], .n []⟩,
  ⟨some 20, .bin .neq (.t 19) (.c (.int .i64 5)), (some (17, false)), [], .n []⟩,
  ⟨some 21, .mv (.t 20), (some (17, false)), [], .n []⟩,
  ⟨some 22, .off (.t 1) 3, (some (21, true)), [], .n []⟩,
  ⟨some 23, .load (.t 22) false 1, (some (21, true)), [], .n []⟩,
  ⟨some 24, .bin .neq (.t 23) (.c (.str [])), (some (21, true)), [], .n []⟩,
  ⟨some 25, .pick (.t 21) (.t 24) (.c (.bool false)), (some (17, false)), [], .n []⟩,
  ⟨some 26, .pick (.t 17) (.c (.bool true)) (.t 25), none, [], .n []⟩,
  ⟨some 27, .mv (.t 26), none, [], .n []⟩,
  ⟨some 28, .off (.t 1) 5, (some (27, false)), [], .n []⟩,
  ⟨some 29, .load (.t 28) false 1, (some (27, false)), [], .n []⟩,
  ⟨some 30, .call F_ref1_Valid [(.t 29)], (some (27, false)), [], .n []⟩,
  ⟨some 31, .un .not (.t 30), (some (27, false)), [], .n []⟩,
  ⟨some 32, .pick (.t 27) (.c (.bool true)) (.t 31), none, [], .n []⟩] [.keep [1, 32]])
(.cond (.t 32)
(.seq (.reg 0 [
  ⟨some 2, .mv (.c (.bool false)), none, [], .n []⟩] [.keep [2]])
.ret)
(.gsk [.keep [1]])))
(.seq (.seq (.reg 0 [
  ⟨some 33, .off (.t 1) 0, none, [], .n []⟩,
  ⟨some 34, .load (.t 33) false 1, none, [], .n []⟩] [.keep [1, 34]])
(.block 0
(.seq (.reg 0 [
  ⟨some 36, .bin .eql (.t 34) (.c (.int .i64 3)), none, [], .n []⟩,
  ⟨some 35, .mv (.t 36), none, [], .n []⟩] [.keep [1, 34, 35]])
(.cond (.t 35)
(.seq (.reg 0 [
  ⟨some 37, .off (.t 1) 5, none, [], .n []⟩,
  ⟨some 38, .load (.t 37) false 1, none, [], .n []⟩,
  ⟨some 39, .bin .neq (.t 38) (.c (.str [])), none, [], .n []⟩,
  ⟨some 2, .mv (.t 39), none, [], .n []⟩] [.keep [2]])
.ret)
(.seq (.reg 0 [
  ⟨some 41, .bin .eql (.t 34) (.c (.int .i64 4)), none, [], .n []⟩,
  ⟨some 40, .mv (.t 41), none, [], .n []⟩] [.keep [1, 34, 40]])
(.cond (.t 40)
(.seq (.reg 0 [
  ⟨some 42, .off (.t 1) 5, none, [], .n []⟩,
  ⟨some 43, .load (.t 42) false 1, none, [], .n []⟩,
  ⟨some 44, .call F_ref15_holds [(.t 43), (.c (.str S_13_))], none, [], .n []⟩,
  ⟨some 45, .un .not (.t 44), none, [], .n []⟩,
  ⟨some 46, .mv (.t 45), none, [], .n []⟩,
  ⟨some 47, .off (.t 1) 5, (some (46, true)), [], .n []⟩,
  ⟨some 48, .load (.t 47) false 1, (some (46, true)), [], .n []⟩,
  ⟨some 49, .call F_ref15_holds [(.t 48), (.c (.str S_45__45_))], (some (46, true)), [], .n []⟩,
  ⟨some 50, .un .not (.t 49), (some (46, true)), [], .n []⟩,
  ⟨some 51, .pick (.t 46) (.t 50) (.c (.bool false)), none, [], .n []⟩,
  ⟨some 52, .mv (.t 51), none, [], .n []⟩,
  ⟨some 53, .off (.t 1) 5, (some (52, true)), [], .n []⟩,
  ⟨some 54, .load (.t 53) false 1, (some (52, true)), [], .n []⟩,
  ⟨some 55, .bin .eql (.t 54) (.c (.str [])), (some (52, true)), [], .n []⟩,
  ⟨some 56, .mv (.t 55), (some (52, true)), [], .n []⟩,
  ⟨some 57, .off (.t 1) 5, (some (56, false)), [], .n []⟩,
  ⟨some 58, .load (.t 57) false 1, (some (56, false)), [], .n []⟩,
  ⟨some 59, .off (.t 1) 5, (some (56, false)), [], .n []⟩,
  ⟨some 60, .load (.t 59) false 1, (some (56, false)), [], .n []⟩,
  ⟨some 61, .lenS (.t 60), (some (56, false)), [], .n []⟩,
  ⟨some 62, .bin .sub (.t 61) (.c (.int .i64 1)), (some (56, false)), [], .n []⟩,
  ⟨some 63, .at (.t 58) (.t 62), (some (56, false)), [], .n []⟩,
  ⟨some 64, .bin .neq (.t 63) (.c (.int .u8 45)), (some (56, false)), [], .n []⟩,
  ⟨some 65, .pick (.t 56) (.c (.bool true)) (.t 64), (some (52, true)), [], .n []⟩,
  ⟨some 66, .pick (.t 52) (.t 65) (.c (.bool false)), none, [], .n []⟩,
  ⟨some 2, .mv (.t 66), none, [], .n []⟩] [.keep [2]])
.ret)
(.seq (.reg 0 [
  ⟨some 68, .bin .eql (.t 34) (.c (.int .i64 5)), none, [], .n []⟩,
  ⟨some 67, .mv (.t 68), none, [], .n []⟩] [.keep [1, 67]])
(.cond (.t 67)
(.seq (.reg 0 [
  ⟨some 69, .off (.t 1) 3, none, [], .n []⟩,
  ⟨some 70, .load (.t 69) false 1, none, [], .n []⟩,
  ⟨some 71, .call F_ref10_Target [(.t 70)], none, [], .n []⟩,
  ⟨some 72, .mv (.t 71), none, [], .n []⟩,
  ⟨some 73, .off (.t 1) 5, (some (72, true)), [], .n []⟩,
  ⟨some 74, .load (.t 73) false 1, (some (72, true)), [], .n []⟩,
  ⟨some 75, .call F_ref15_holds [(.t 74), (.c (.str S_13_))], (some (72, true)), [], .n []⟩,
  ⟨some 76, .un .not (.t 75), (some (72, true)), [], .n []⟩,
  ⟨some 77, .pick (.t 72) (.t 76) (.c (.bool false)), none, [], .n []⟩,
  ⟨some 78, .mv (.t 77), none, [], .n []⟩,
  ⟨some 79, .off (.t 1) 5, (some (78, true)), [], .n []⟩,
  ⟨some 80, .load (.t 79) false 1, (some (78, true)), [], .n []⟩,
  ⟨some 81, .call F_ref15_holds [(.t 80), (.c (.str S_63__62_))], (some (78, true)), [], .n []⟩,
  ⟨some 82, .un .not (.t 81), (some (78, true)), [], .n []⟩,
  ⟨some 83, .pick (.t 78) (.t 82) (.c (.bool false)), none, [], .n []⟩,
  ⟨some 84, .mv (.t 83), none, [], .n []⟩,
  ⟨some 85, .off (.t 1) 5, (some (84, true)), [], .n []⟩,
  ⟨some 86, .load (.t 85) false 1, (some (84, true)), [], .n []⟩,
  ⟨some 87, .bin .eql (.t 86) (.c (.str [])), (some (84, true)), [], .n []⟩,
  ⟨some 88, .mv (.t 87), (some (84, true)), [], .n []⟩,
  ⟨some 89, .off (.t 1) 5, (some (88, false)), [], .n []⟩,
  ⟨some 90, .load (.t 89) false 1, (some (88, false)), [], .n []⟩,
  ⟨some 91, .at (.t 90) (.c (.int .i64 0)), (some (88, false)), [], .n []⟩,
  ⟨some 92, .cint .i32 (.t 91), (some (88, false)), [], .n []⟩,
  ⟨some 93, .call F_ref1_Space [(.t 92)], (some (88, false)), [], .n []⟩,
  ⟨some 94, .un .not (.t 93), (some (88, false)), [], .n []⟩,
  ⟨some 95, .pick (.t 88) (.c (.bool true)) (.t 94), (some (84, true)), [], .n []⟩,
  ⟨some 96, .pick (.t 84) (.t 95) (.c (.bool false)), none, [], .n []⟩,
  ⟨some 2, .mv (.t 96), none, [], .n []⟩] [.keep [2]])
.ret)
(.gsk [.keep []])))))))))
(.seq (.reg 0 [
  ⟨some 2, .mv (.c (.bool false)), none, [], .n []⟩] [.keep [2]])
.ret))))
def r_ref15_plain : List VRes := [.tmp 2]
theorem k_ref15_plain : Fits Tryz.prog F_ref15_plain c_ref15_plain r_ref15_plain := .of Tryz.func41 (by kernel_rfl)
def c_tree_at : VCode := (.seq (.reg 0 [
  ⟨some 4, .allocL [(.int .i64 0), (.int .i64 0), (.str []), (.str []), (.str []), (.str []), .nils], none, [], .n []⟩,
  ⟨some 5, .mv (.c (.bool false)), none, [], .n []⟩] [.keep [0, 1, 4]])
(.seq (.seq (.reg 0 [
  ⟨some 6, .mv (.t 1), none, [], .n []⟩,
  ⟨some 7, .bin .lss (.t 6) (.c (.int .i64 0)), none, [], .n []⟩,
  ⟨some 8, .mv (.t 7), none, [], .n []⟩,
  ⟨some 9, .mv (.t 1), (some (8, false)), [], .n []⟩,
  ⟨some 10, .mv (.t 0), (some (8, false)), [], .n []⟩,
  ⟨some 11, .lenL (.t 10), (some (8, false)), [], .n []⟩,
  ⟨some 12, .bin .geq (.t 9) (.t 11), (some (8, false)), [], .n []⟩,
  ⟨some 13, .pick (.t 8) (.c (.bool true)) (.t 12), none, [], .n []⟩] [.keep [0, 1, 4, 13]])
(.cond (.t 13)
(.seq (.reg 0 [
  ⟨some 14, .build [(.int .i64 0), (.int .i64 0), (.str []), (.str []), (.str []), (.str []), .nils] [], none, [], .n []⟩,
  ⟨none, .store (.t 4) (.t 14) 7, none, [], .n []⟩,
  ⟨some 5, .mv (.c (.bool false)), none, [], .n []⟩] [.keep [4, 5]])
.ret)
(.gsk [.keep [0, 1, 4]])))
(.seq (.reg 0 [
  ⟨some 15, .mv (.t 0), none, [], .n []⟩,
  ⟨some 16, .mv (.t 1), none, [], .n []⟩,
  ⟨some 17, .idx 7 (.t 15) (.t 16), none, [], .n []⟩,
  ⟨some 18, .load (.t 17) true 7, none, [], .n []⟩,
  ⟨none, .store (.t 4) (.t 18) 7, none, [], .n []⟩,
  ⟨some 5, .mv (.c (.bool true)), none, [], .n []⟩] [.keep [4, 5]])
.ret)))
def r_tree_at : List VRes := [.cell 4 true 7, .tmp 5]
theorem k_tree_at : Fits Tryz.prog F_tree_at c_tree_at r_tree_at := .of Tryz.func44 (by kernel_rfl)
def c_ref10_Declares : VCode := (.seq (.reg 0 [
  ⟨some 1, .boxL (.t 0), none, [], .n []⟩,
  ⟨some 2, .mv (.c (.str [])), none, [], .n []⟩,
  ⟨some 3, .mv (.c (.bool false)), none, [], .n []⟩] [.keep [1]])
(.seq (.block 0
(.seq (.reg 0 [
  ⟨some 5, .off (.t 1) 2, none, [], .n []⟩,
  ⟨some 6, .load (.t 5) false 1, none, [], .n []⟩,
  ⟨some 7, .bin .neq (.t 6) (.c (.str Shttp_58__47__47_www_46_w3_46__29_391792)), none, [], .n []⟩,
  ⟨some 4, .mv (.t 7), none, [], .n []⟩] [.keep [1, 4]])
(.cond (.t 4)
(.seq (.reg 0 [
  ⟨some 2, .mv (.c (.str [])), none, [], .n []⟩,
  ⟨some 3, .mv (.c (.bool false)), none, [], .n []⟩] [.keep [2, 3]])
.ret)
(.seq (.reg 0 [
  ⟨some 9, .off (.t 1) 0, none, [], .n []⟩,
  ⟨some 10, .load (.t 9) false 1, none, [], .n []⟩,
  ⟨some 11, .bin .eql (.t 10) (.c (.str S_xmlns)), none, [], .n []⟩,
  ⟨some 8, .mv (.t 11), none, [], .n []⟩] [.keep [1, 8]])
(.cond (.t 8)
(.seq (.reg 0 [
  ⟨some 12, .off (.t 1) 1, none, [], .n []⟩,
  ⟨some 13, .load (.t 12) false 1, none, [], .n []⟩,
  ⟨some 2, .mv (.t 13), none, [], .n []⟩,
  ⟨some 3, .mv (.c (.bool true)), none, [], .n []⟩] [.keep [2, 3]])
.ret)
(.gsk [.keep [1]]))))))
(.seq (.reg 1 [
  ⟨some 14, .off (.t 1) 0, none, [], .n []⟩,
  ⟨some 15, .load (.t 14) false 1, none, [], .n []⟩,
  ⟨some 16, .bin .eql (.t 15) (.c (.str [])), none, [], .n []⟩,
  ⟨some 17, .mv (.t 16), none, [], .n []⟩,
  ⟨some 18, .off (.t 1) 1, (some (17, true)), [], .n []⟩,
  ⟨some 19, .load (.t 18) false 1, (some (17, true)), [], .n []⟩,
  ⟨some 20, .bin .eql (.t 19) (.c (.str S_xmlns)), (some (17, true)), [], .n []⟩,
  ⟨some 21, .pick (.t 17) (.t 20) (.c (.bool false)), none, [], .n []⟩,
  ⟨some 2, .mv (.c (.str [])), none, [], .n []⟩,
  ⟨some 3, .mv (.t 21), none, [], .n []⟩] [.keep [2, 3]])
.ret)))
def r_ref10_Declares : List VRes := [.tmp 2, .tmp 3]
theorem k_ref10_Declares : Fits Tryz.prog F_ref10_Declares c_ref10_Declares r_ref10_Declares := .of Tryz.func54 (by kernel_rfl)
def c_ref10_Scope_URI_L1 : VCode := (.seq (.seq (.reg 0 [
  ⟨some 22, .mv (.t 7), none, [], .n []⟩,
  ⟨some 23, .mv (.t 0), none, [], .n []⟩,
  ⟨some 24, .nilck (.t 23), none, [], .n []⟩,
  ⟨some 25, .off (.t 24) 0, none, [], .n []⟩,
  ⟨some 26, .load (.t 25) false 1, none, [], .n []⟩,
  ⟨some 27, .mv (.t 6), none, [], .n []⟩,
  ⟨some 28, .idx 1 (.t 26) (.t 27), none, [], .n []⟩,
  ⟨some 29, .load (.t 28) false 1, none, [], .n []⟩,
  ⟨some 30, .lenL (.t 29), none, [], .n []⟩,
  ⟨some 31, .bin .lss (.t 22) (.t 30), none, [], .n []⟩] [.keep [0, 1, 6, 7, 31]])
(.cond (.t 31)
(.gsk [.keep [0, 1, 6, 7]])
(.exit 2)))
(.seq (.block 3
(.seq (.reg 0 [
  ⟨some 35, .mv (.t 0), none, [], .n []⟩,
  ⟨some 36, .nilck (.t 35), none, [], .n []⟩,
  ⟨some 37, .off (.t 36) 0, none, [], .n []⟩,
  ⟨some 38, .load (.t 37) false 1, none, [], .n []⟩,
  ⟨some 39, .mv (.t 6), none, [], .n []⟩,
  ⟨some 40, .idx 1 (.t 38) (.t 39), none, [], .n []⟩,
  ⟨some 41, .load (.t 40) false 1, none, [], .n []⟩,
  ⟨some 42, .mv (.t 7), none, [], .n []⟩,
  ⟨some 43, .idx 4 (.t 41) (.t 42), none, [], .n []⟩,
  ⟨some 44, .load (.t 43) true 4, none, [], .n []⟩,
  ⟨some 45, .call F_ref10_Declares [(.t 44)], none, [], .n []⟩,
  ⟨some 34, .mv (.t 45), none, [], .n []⟩,
  ⟨some 46, .ext (.t 34) 0, none, [], .n []⟩,
  ⟨some 47, .ext (.t 34) 1, none, [], .n []⟩,
  ⟨some 8, .mv (.t 46), none, [], .n []⟩,
  ⟨some 9, .mv (.t 47), none, [], .n []⟩] [.keep [0, 1, 6, 7, 8]])
(.seq (.reg 0 [
  ⟨some 48, .mv (.t 8), none, [], .n []⟩,
  ⟨some 49, .mv (.t 1), none, [], .n []⟩,
  ⟨some 50, .bin .eql (.t 48) (.t 49), none, [], .n []⟩] [.keep [0, 1, 6, 7, 50]])
(.cond (.t 50)
(.seq (.reg 0 [
  ⟨some 51, .mv (.t 0), none, [], .n []⟩,
  ⟨some 52, .nilck (.t 51), none, [], .n []⟩,
  ⟨some 53, .off (.t 52) 0, none, [], .n []⟩,
  ⟨some 54, .load (.t 53) false 1, none, [], .n []⟩,
  ⟨some 55, .mv (.t 6), none, [], .n []⟩,
  ⟨some 56, .idx 1 (.t 54) (.t 55), none, [], .n []⟩,
  ⟨some 57, .load (.t 56) false 1, none, [], .n []⟩,
  ⟨some 58, .mv (.t 7), none, [], .n []⟩,
  ⟨some 59, .idx 4 (.t 57) (.t 58), none, [], .n []⟩,
  ⟨some 60, .off (.t 59) 3, none, [], .n []⟩,
  ⟨some 61, .load (.t 60) false 1, none, [], .n []⟩,
  ⟨some 4, .mv (.t 61), none, [], .n []⟩,
  ⟨some 5, .mv (.c (.bool true)), none, [], .n []⟩] [.keep [4, 5]])
.ret)
(.gsk [.keep [0, 1, 6, 7]])))))
(.reg 0 [
  ⟨some 32, .mv (.t 7), none, [], .n []⟩,
  ⟨some 33, .bin .add (.t 32) (.c (.int .i64 1)), none, [], .n []⟩,
  ⟨some 7, .mv (.t 33), none, [], .n []⟩] [.keep [0, 1, 6, 7]])))
def c_ref10_Scope_URI_L0 : VCode := (.seq (.seq (.reg 0 [
  ⟨some 18, .mv (.t 6), none, [], .n []⟩,
  ⟨some 19, .bin .geq (.t 18) (.c (.int .i64 0)), none, [], .n []⟩] [.keep [0, 1, 6, 19]])
(.cond (.t 19)
(.gsk [.keep [0, 1, 6]])
(.exit 0)))
(.seq (.block 1
(.seq (.reg 0 [
  ⟨some 7, .mv (.c (.int .i64 0)), none, [], .n []⟩] [.keep [0, 1, 6, 7]])
(.block 2
(.loop c_ref10_Scope_URI_L1))))
(.reg 0 [
  ⟨some 20, .mv (.t 6), none, [], .n []⟩,
  ⟨some 21, .bin .sub (.t 20) (.c (.int .i64 1)), none, [], .n []⟩,
  ⟨some 6, .mv (.t 21), none, [], .n []⟩] [.keep [0, 1, 6]])))
def c_ref10_Scope_URI : VCode := (.seq (.reg 0 [
  ⟨some 4, .mv (.c (.str [])), none, [], .n []⟩,
  ⟨some 5, .mv (.c (.bool false)), none, [], .n []⟩] [.keep [0, 1]])
(.seq (.seq (.reg 0 [
  ⟨some 10, .mv (.t 1), none, [], .n []⟩,
  ⟨some 11, .bin .eql (.t 10) (.c (.str S_xml)), none, [], .n []⟩] [.keep [0, 1, 11]])
(.cond (.t 11)
(.seq (.reg 0 [
  ⟨some 4, .mv (.c (.str Shttp_58__47__47_www_46_w3_46__36_910846)), none, [], .n []⟩,
  ⟨some 5, .mv (.c (.bool true)), none, [], .n []⟩] [.keep [4, 5]])
.ret)
(.gsk [.keep [0, 1]])))
(.seq (.seq (.reg 0 [
  ⟨some 12, .mv (.t 0), none, [], .n []⟩,
  ⟨some 13, .nilck (.t 12), none, [], .n []⟩,
  ⟨some 14, .off (.t 13) 0, none, [], .n []⟩,
  ⟨some 15, .load (.t 14) false 1, none, [], .n []⟩,
  ⟨some 16, .lenL (.t 15), none, [], .n []⟩,
  ⟨some 17, .bin .sub (.t 16) (.c (.int .i64 1)), none, [], .n []⟩,
  ⟨some 6, .mv (.t 17), none, [], .n []⟩] [.keep [0, 1, 6]])
(.block 0
(.loop c_ref10_Scope_URI_L0)))
(.seq (.reg 0 [
  ⟨some 62, .mv (.t 1), none, [], .n []⟩,
  ⟨some 63, .bin .eql (.t 62) (.c (.str [])), none, [], .n []⟩,
  ⟨some 4, .mv (.c (.str [])), none, [], .n []⟩,
  ⟨some 5, .mv (.t 63), none, [], .n []⟩] [.keep [4, 5]])
.ret))))
def r_ref10_Scope_URI : List VRes := [.tmp 4, .tmp 5]
theorem k_ref10_Scope_URI : Fits Tryz.prog F_ref10_Scope_URI c_ref10_Scope_URI r_ref10_Scope_URI := .of Tryz.func55 (by kernel_rfl)
def c_ref15_named : VCode := (.seq (.reg 0 [
  ⟨some 4, .mv (.c (.bool false)), none, [], .n []⟩] [.keep [0, 1]])
(.seq (.reg 0 [
  ⟨some 9, .mv (.t 0), none, [], .n []⟩,
  ⟨some 10, .mv (.t 1), none, [], .n []⟩,
  ⟨some 11, .call F_ref15_qname [(.t 9), (.t 10)], none, [], .n []⟩,
  ⟨some 12, .call F_ref1_Split [(.t 11)], none, [], .n []⟩,
  ⟨some 8, .mv (.t 12), none, [], .n []⟩,
  ⟨some 13, .ext (.t 8) 0, none, [], .n []⟩,
  ⟨some 14, .ext (.t 8) 1, none, [], .n []⟩,
  ⟨some 15, .ext (.t 8) 2, none, [], .n []⟩,
  ⟨some 5, .mv (.t 13), none, [], .n []⟩,
  ⟨some 6, .mv (.t 14), none, [], .n []⟩,
  ⟨some 7, .mv (.t 15), none, [], .n []⟩] [.keep [0, 1, 5, 6, 7]])
(.seq (.reg 0 [
  ⟨some 16, .mv (.t 7), none, [], .n []⟩,
  ⟨some 17, .mv (.t 16), none, [], .n []⟩,
  ⟨some 18, .mv (.t 5), (some (17, true)), [], .n []⟩,
  ⟨some 19, .mv (.t 0), (some (17, true)), [], .n []⟩,
  ⟨some 20, .bin .eql (.t 18) (.t 19), (some (17, true)), [], .n []⟩,
  ⟨some 21, .pick (.t 17) (.t 20) (.c (.bool false)), none, [], .n []⟩,
  ⟨some 22, .mv (.t 21), none, [], .n []⟩,
  ⟨some 23, .mv (.t 6), (some (22, true)), [], .n []⟩,
  ⟨some 24, .mv (.t 1), (some (22, true)), [], .n []⟩,
  ⟨some 25, .bin .eql (.t 23) (.t 24), (some (22, true)), [], .n []⟩,
  ⟨some 26, .pick (.t 22) (.t 25) (.c (.bool false)), none, [], .n []⟩,
  ⟨some 4, .mv (.t 26), none, [], .n []⟩] [.keep [4]])
.ret)))
def r_ref15_named : List VRes := [.tmp 4]
theorem k_ref15_named : Fits Tryz.prog F_ref15_named c_ref15_named r_ref15_named := .of Tryz.func68 (by kernel_rfl)
def c_ref1_Valid_L0 : VCode := (.seq (.seq (.reg 0 [
  ⟨some 6, .mv (.t 3), none, [], .n []⟩,
  ⟨some 7, .mv (.t 0), none, [], .n []⟩,
  ⟨some 8, .lenS (.t 7), none, [], .n []⟩,
  ⟨some 9, .bin .lss (.t 6) (.t 8), none, [], .n []⟩] [.keep [0, 3, 9]])
(.cond (.t 9)
(.gsk [.keep [0, 3]])
(.exit 0)))
(.block 1
(.seq (.reg 0 [
  ⟨some 11, .mv (.t 0), none, [], .n []⟩,
  ⟨some 12, .mv (.t 3), none, [], .n []⟩,
  ⟨some 13, .call F_ref1_One [(.t 11), (.t 12)], none, [], .n []⟩,
  ⟨some 10, .mv (.t 13), none, [], .n []⟩,
  ⟨some 14, .ext (.t 10) 0, none, [], .n []⟩,
  ⟨some 15, .ext (.t 10) 1, none, [], .n []⟩,
  ⟨some 4, .mv (.t 14), none, [], .n []⟩,
  ⟨some 5, .mv (.t 15), none, [], .n []⟩] [.keep [0, 3, 4, 5]])
(.seq (.seq (.reg 0 [
  ⟨some 16, .mv (.t 5), none, [], .n []⟩,
  ⟨some 17, .bin .eql (.t 16) (.c (.int .i64 0)), none, [], .n []⟩,
  ⟨some 18, .mv (.t 17), none, [], .n []⟩,
  ⟨some 19, .mv (.t 4), (some (18, false)), [], .n []⟩,
  ⟨some 20, .call F_ref1_Char [(.t 19)], (some (18, false)), [], .n []⟩,
  ⟨some 21, .un .not (.t 20), (some (18, false)), [], .n []⟩,
  ⟨some 22, .pick (.t 18) (.c (.bool true)) (.t 21), none, [], .n []⟩] [.keep [0, 3, 5, 22]])
(.cond (.t 22)
(.seq (.reg 0 [
  ⟨some 2, .mv (.c (.bool false)), none, [], .n []⟩] [.keep [2]])
.ret)
(.gsk [.keep [0, 3, 5]])))
(.reg 0 [
  ⟨some 23, .mv (.t 3), none, [], .n []⟩,
  ⟨some 24, .mv (.t 5), none, [], .n []⟩,
  ⟨some 25, .bin .add (.t 23) (.t 24), none, [], .n []⟩,
  ⟨some 3, .mv (.t 25), none, [], .n []⟩] [.keep [0, 3]])))))
def c_ref1_Valid : VCode := (.seq (.reg 0 [
  ⟨some 2, .mv (.c (.bool false)), none, [], .n []⟩] [.keep [0]])
(.seq (.seq (.reg 0 [
  ⟨some 3, .mv (.c (.int .i64 0)), none, [], .n []⟩] [.keep [0, 3]])
(.block 0
(.loop c_ref1_Valid_L0)))
(.seq (.reg 0 [
  ⟨some 2, .mv (.c (.bool true)), none, [], .n []⟩] [.keep [2]])
.ret)))
def r_ref1_Valid : List VRes := [.tmp 2]
theorem k_ref1_Valid : Fits Tryz.prog F_ref1_Valid c_ref1_Valid r_ref1_Valid := .of Tryz.func69 (by kernel_rfl)
def c_ref15_holds_L0 : VCode := (.seq (.seq (.reg 0 [
  ⟨some 6, .mv (.t 5), none, [], .n []⟩,
  ⟨some 7, .mv (.t 1), none, [], .n []⟩,
  ⟨some 8, .lenS (.t 7), none, [], .n []⟩,
  ⟨some 9, .bin .add (.t 6) (.t 8), none, [], .n []⟩,
  ⟨some 10, .mv (.t 0), none, [], .n []⟩,
  ⟨some 11, .lenS (.t 10), none, [], .n []⟩,
  ⟨some 12, .bin .leq (.t 9) (.t 11), none, [], .n []⟩] [.keep [0, 1, 5, 12]])
(.cond (.t 12)
(.gsk [.keep [0, 1, 5]])
(.exit 0)))
(.seq (.block 1
(.seq (.reg 0 [
  ⟨some 15, .mv (.t 0), none, [], .n []⟩,
  ⟨some 16, .mv (.t 5), none, [], .n []⟩,
  ⟨some 17, .mv (.t 5), none, [], .n []⟩,
  ⟨some 18, .mv (.t 1), none, [], .n []⟩,
  ⟨some 19, .lenS (.t 18), none, [], .n []⟩,
  ⟨some 20, .bin .add (.t 17) (.t 19), none, [], .n []⟩,
  ⟨some 21, .cutS (.t 15) (some (.t 16)) (some (.t 20)), none, [], .n []⟩,
  ⟨some 22, .mv (.t 1), none, [], .n []⟩,
  ⟨some 23, .bin .eql (.t 21) (.t 22), none, [], .n []⟩] [.keep [0, 1, 5, 23]])
(.cond (.t 23)
(.seq (.reg 0 [
  ⟨some 4, .mv (.c (.bool true)), none, [], .n []⟩] [.keep [4]])
.ret)
(.gsk [.keep [0, 1, 5]]))))
(.reg 0 [
  ⟨some 13, .mv (.t 5), none, [], .n []⟩,
  ⟨some 14, .bin .add (.t 13) (.c (.int .i64 1)), none, [], .n []⟩,
  ⟨some 5, .mv (.t 14), none, [], .n []⟩] [.keep [0, 1, 5]])))
def c_ref15_holds : VCode := (.seq (.reg 0 [
  ⟨some 4, .mv (.c (.bool false)), none, [], .n []⟩] [.keep [0, 1]])
(.seq (.seq (.reg 0 [
  ⟨some 5, .mv (.c (.int .i64 0)), none, [], .n []⟩] [.keep [0, 1, 5]])
(.block 0
(.loop c_ref15_holds_L0)))
(.seq (.reg 0 [
  ⟨some 4, .mv (.c (.bool false)), none, [], .n []⟩] [.keep [4]])
.ret)))
def r_ref15_holds : List VRes := [.tmp 4]
theorem k_ref15_holds : Fits Tryz.prog F_ref15_holds c_ref15_holds r_ref15_holds := .of Tryz.func70 (by kernel_rfl)
def c_ref10_Target : VCode := (.seq (.reg 0 [
  ⟨some 2, .mv (.c (.bool false)), none, [], .n []⟩] [.keep [0]])
(.seq (.reg 0 [
  ⟨some 3, .mv (.t 0), none, [], .n []⟩,
  ⟨some 4, .call F_ref1_NCName [(.t 3)], none, [], .n []⟩,
  ⟨some 5, .mv (.t 4), none, [], .n []⟩,
  ⟨some 6, .mv (.t 0), (some (5, true)), [], .n []⟩,
  ⟨some 7, .call F_ref10_lower [(.t 6)], (some (5, true)), [], .n []⟩,
  ⟨some 8, .bin .neq (.t 7) (.c (.str S_xml)), (some (5, true)), [], .n []⟩,
  ⟨some 9, .pick (.t 5) (.t 8) (.c (.bool false)), none, [], .n []⟩,
  ⟨some 2, .mv (.t 9), none, [], .n []⟩] [.keep [2]])
.ret))
def r_ref10_Target : List VRes := [.tmp 2]
theorem k_ref10_Target : Fits Tryz.prog F_ref10_Target c_ref10_Target r_ref10_Target := .of Tryz.func71 (by kernel_rfl)
def c_ref1_Space : VCode := (.seq (.reg 0 [
  ⟨some 2, .mv (.c (.bool false)), none, [], .n []⟩] [.keep [0]])
(.seq (.reg 0 [
  ⟨some 3, .mv (.t 0), none, [], .n []⟩,
  ⟨some 4, .bin .eql (.t 3) (.c (.int .i32 32)), none, [], .n []⟩,
  ⟨some 5, .mv (.t 4), none, [], .n []⟩,
  ⟨some 6, .mv (.t 0), (some (5, false)), [], .n []⟩,
  ⟨some 7, .bin .eql (.t 6) (.c (.int .i32 9)), (some (5, false)), [], .n []⟩,
  ⟨some 8, .pick (.t 5) (.c (.bool true)) (.t 7), none, [], .n []⟩,
  ⟨some 9, .mv (.t 8), none, [], .n []⟩,
  ⟨some 10, .mv (.t 0), (some (9, false)), [], .n []⟩,
  ⟨some 11, .bin .eql (.t 10) (.c (.int .i32 13)), (some (9, false)), [], .n []⟩,
  ⟨some 12, .pick (.t 9) (.c (.bool true)) (.t 11), none, [], .n []⟩,
  ⟨some 13, .mv (.t 12), none, [], .n []⟩,
  ⟨some 14, .mv (.t 0), (some (13, false)), [], .n []⟩,
  ⟨some 15, .bin .eql (.t 14) (.c (.int .i32 10)), (some (13, false)), [], .n []⟩,
  ⟨some 16, .pick (.t 13) (.c (.bool true)) (.t 15), none, [], .n []⟩,
  ⟨some 2, .mv (.t 16), none, [], .n []⟩] [.keep [2]])
.ret))
def r_ref1_Space : List VRes := [.tmp 2]
theorem k_ref1_Space : Fits Tryz.prog F_ref1_Space c_ref1_Space r_ref1_Space := .of Tryz.func72 (by kernel_rfl)
def c_ref1_Split_L0 : VCode := (.seq (.seq (.reg 0 [
  ⟨some 6, .mv (.t 5), none, [], .n []⟩,
  ⟨some 7, .mv (.t 0), none, [], .n []⟩,
  ⟨some 8, .lenS (.t 7), none, [], .n []⟩,
  ⟨some 9, .bin .lss (.t 6) (.t 8), none, [], .n []⟩] [.keep [0, 5, 9]])
(.cond (.t 9)
(.gsk [.keep [0, 5]])
(.exit 0)))
(.seq (.block 1
(.seq (.reg 0 [
  ⟨some 12, .mv (.t 0), none, [], .n []⟩,
  ⟨some 13, .mv (.t 5), none, [], .n []⟩,
  ⟨some 14, .at (.t 12) (.t 13), none, [], .n []⟩,
  ⟨some 15, .bin .eql (.t 14) (.c (.int .u8 58)), none, [], .n []⟩] [.keep [0, 5, 15]])
(.cond (.t 15)
(.seq (.seq (.reg 0 [
  ⟨some 16, .mv (.t 0), none, [], .n []⟩,
  ⟨some 17, .mv (.t 5), none, [], .n []⟩,
  ⟨some 18, .cutS (.t 16) none (some (.t 17)), none, [], .n []⟩,
  ⟨some 19, .call F_ref1_NCName [(.t 18)], none, [], .n []⟩,
  ⟨some 20, .mv (.t 19), none, [], .n []⟩,
  ⟨some 21, .mv (.t 0), (some (20, true)), [], .n []⟩,
  ⟨some 22, .mv (.t 5), (some (20, true)), [], .n []⟩,
  ⟨some 23, .bin .add (.t 22) (.c (.int .i64 1)), (some (20, true)), [], .n []⟩,
  ⟨some 24, .cutS (.t 21) (some (.t 23)) none, (some (20, true)), [], .n []⟩,
  ⟨some 25, .call F_ref1_NCName [(.t 24)], (some (20, true)), [], .n []⟩,
  ⟨some 26, .pick (.t 20) (.t 25) (.c (.bool false)), none, [], .n []⟩] [.keep [0, 5, 26]])
(.cond (.t 26)
(.seq (.reg 1 [
  ⟨some 27, .mv (.t 0), none, [], .n []⟩,
  ⟨some 28, .mv (.t 5), none, [], .n []⟩,
  ⟨some 29, .cutS (.t 27) none (some (.t 28)), none, [], .n []⟩,
  ⟨some 30, .mv (.t 0), none, [], .n []⟩,
  ⟨some 31, .mv (.t 5), none, [], .n []⟩,
  ⟨some 32, .bin .add (.t 31) (.c (.int .i64 1)), none, [], .n []⟩,
  ⟨some 33, .cutS (.t 30) (some (.t 32)) none, none, [], .n []⟩,
  ⟨some 2, .mv (.t 29), none, [], .n []⟩,
  ⟨some 3, .mv (.t 33), none, [], .n []⟩,
  ⟨some 4, .mv (.c (.bool true)), none, [], .n []⟩] [.keep [2, 3, 4]])
.ret)
(.gsk [.keep []])))
(.seq (.reg 0 [
  ⟨some 2, .mv (.c (.str [])), none, [], .n []⟩,
  ⟨some 3, .mv (.c (.str [])), none, [], .n []⟩,
  ⟨some 4, .mv (.c (.bool false)), none, [], .n []⟩] [.keep [2, 3, 4]])
.ret))
(.gsk [.keep [0, 5]]))))
(.reg 0 [
  ⟨some 10, .mv (.t 5), none, [], .n []⟩,
  ⟨some 11, .bin .add (.t 10) (.c (.int .i64 1)), none, [], .n []⟩,
  ⟨some 5, .mv (.t 11), none, [], .n []⟩] [.keep [0, 5]])))
def c_ref1_Split : VCode := (.seq (.reg 0 [
  ⟨some 2, .mv (.c (.str [])), none, [], .n []⟩,
  ⟨some 3, .mv (.c (.str [])), none, [], .n []⟩,
  ⟨some 4, .mv (.c (.bool false)), none, [], .n []⟩] [.keep [0]])
(.seq (.seq (.reg 0 [
  ⟨some 5, .mv (.c (.int .i64 0)), none, [], .n []⟩] [.keep [0, 5]])
(.block 0
(.loop c_ref1_Split_L0)))
(.seq (.seq (.reg 0 [
  ⟨some 34, .mv (.t 0), none, [], .n []⟩,
  ⟨some 35, .call F_ref1_NCName [(.t 34)], none, [], .n []⟩,
  ⟨some 36, .un .not (.t 35), none, [], .n []⟩] [.keep [0, 36]])
(.cond (.t 36)
(.seq (.reg 0 [
  ⟨some 2, .mv (.c (.str [])), none, [], .n []⟩,
  ⟨some 3, .mv (.c (.str [])), none, [], .n []⟩,
  ⟨some 4, .mv (.c (.bool false)), none, [], .n []⟩] [.keep [2, 3, 4]])
.ret)
(.gsk [.keep [0]])))
(.seq (.reg 0 [
  ⟨some 37, .mv (.t 0), none, [], .n []⟩,
  ⟨some 2, .mv (.c (.str [])), none, [], .n []⟩,
  ⟨some 3, .mv (.t 37), none, [], .n []⟩,
  ⟨some 4, .mv (.c (.bool true)), none, [], .n []⟩] [.keep [2, 3, 4]])
.ret))))
def r_ref1_Split : List VRes := [.tmp 2, .tmp 3, .tmp 4]
theorem k_ref1_Split : Fits Tryz.prog F_ref1_Split c_ref1_Split r_ref1_Split := .of Tryz.func106 (by kernel_rfl)
def c_ref15_qname : VCode := (.seq (.reg 0 [
  ⟨some 4, .mv (.c (.str [])), none, [], .n []⟩] [.keep [0, 1]])
(.seq (.seq (.reg 0 [
  ⟨some 5, .mv (.t 0), none, [], .n []⟩,
  ⟨some 6, .bin .eql (.t 5) (.c (.str [])), none, [], .n []⟩] [.keep [0, 1, 6]])
(.cond (.t 6)
(.seq (.reg 0 [
  ⟨some 7, .mv (.t 1), none, [], .n []⟩,
  ⟨some 4, .mv (.t 7), none, [], .n []⟩] [.keep [4]])
.ret)
(.gsk [.keep [0, 1]])))
(.seq (.reg 0 [
  ⟨some 8, .mv (.t 0), none, [], .n []⟩,
  ⟨some 9, .bin .add (.t 8) (.c (.str S_58_)), none, [], .n []⟩,
  ⟨some 10, .mv (.t 1), none, [], .n []⟩,
  ⟨some 11, .bin .add (.t 9) (.t 10), none, [], .n []⟩,
  ⟨some 4, .mv (.t 11), none, [], .n []⟩] [.keep [4]])
.ret)))
def r_ref15_qname : List VRes := [.tmp 4]
theorem k_ref15_qname : Fits Tryz.prog F_ref15_qname c_ref15_qname r_ref15_qname := .of Tryz.func107 (by kernel_rfl)
def c_ref1_One_L0 : VCode := (.seq (.seq (.reg 0 [
  ⟨some 59, .mv (.t 10), none, [], .n []⟩,
  ⟨some 60, .mv (.t 7), none, [], .n []⟩,
  ⟨some 61, .bin .lss (.t 59) (.t 60), none, [], .n []⟩] [.keep [0, 1, 7, 8, 9, 10, 61]])
(.cond (.t 61)
(.gsk [.keep [0, 1, 7, 8, 9, 10]])
(.exit 1)))
(.seq (.block 2
(.seq (.seq (.reg 0 [
  ⟨some 64, .mv (.t 0), none, [], .n []⟩,
  ⟨some 65, .mv (.t 1), none, [], .n []⟩,
  ⟨some 66, .mv (.t 10), none, [], .n []⟩,
  ⟨some 67, .bin .add (.t 65) (.t 66), none, [], .n []⟩,
  ⟨some 68, .at (.t 64) (.t 67), none, [], .n []⟩,
  ⟨some 69, .bin .and (.t 68) (.c (.int .u8 192)), none, [], .n []⟩,
  ⟨some 70, .bin .neq (.t 69) (.c (.int .u8 128)), none, [], .n []⟩] [.keep [0, 1, 7, 8, 9, 10, 70]])
(.cond (.t 70)
(.seq (.reg 0 [
  ⟨some 4, .mv (.c (.int .i32 0)), none, [], .n []⟩,
  ⟨some 5, .mv (.c (.int .i64 0)), none, [], .n []⟩] [.keep [4, 5]])
.ret)
(.gsk [.keep [0, 1, 7, 8, 9, 10]])))
(.reg 0 [
  ⟨some 71, .mv (.t 8), none, [], .n []⟩,
  ⟨some 72, .bin .shl (.t 71) (.c (.int .u64 6)), none, [], .n []⟩,
  ⟨some 73, .mv (.t 0), none, [], .n []⟩,
  ⟨some 74, .mv (.t 1), none, [], .n []⟩,
  ⟨some 75, .mv (.t 10), none, [], .n []⟩,
  ⟨some 76, .bin .add (.t 74) (.t 75), none, [], .n []⟩,
  ⟨some 77, .at (.t 73) (.t 76), none, [], .n []⟩,
  ⟨some 78, .bin .and (.t 77) (.c (.int .u8 63)), none, [], .n []⟩,
  ⟨some 79, .cint .i32 (.t 78), none, [], .n []⟩,
  ⟨some 80, .bin .or (.t 72) (.t 79), none, [], .n []⟩,
  ⟨some 8, .mv (.t 80), none, [], .n []⟩] [.keep [0, 1, 7, 8, 9, 10]])))
(.reg 0 [
  ⟨some 62, .mv (.t 10), none, [], .n []⟩,
  ⟨some 63, .bin .add (.t 62) (.c (.int .i64 1)), none, [], .n []⟩,
  ⟨some 10, .mv (.t 63), none, [], .n []⟩] [.keep [0, 1, 7, 8, 9, 10]])))
def c_ref1_One_R14 : VCode := (.seq (.seq (.reg 0 [
  ⟨some 53, .mv (.t 1), none, [], .n []⟩,
  ⟨some 54, .mv (.t 7), none, [], .n []⟩,
  ⟨some 55, .bin .add (.t 53) (.t 54), none, [], .n []⟩,
  ⟨some 56, .mv (.t 0), none, [], .n []⟩,
  ⟨some 57, .lenS (.t 56), none, [], .n []⟩,
  ⟨some 58, .bin .gtr (.t 55) (.t 57), none, [], .n []⟩] [.keep [0, 1, 7, 8, 9, 58]])
(.cond (.t 58)
(.seq (.reg 0 [
  ⟨some 4, .mv (.c (.int .i32 0)), none, [], .n []⟩,
  ⟨some 5, .mv (.c (.int .i64 0)), none, [], .n []⟩] [.keep [4, 5]])
.ret)
(.gsk [.keep [0, 1, 7, 8, 9]])))
(.seq (.seq (.reg 0 [
  ⟨some 10, .mv (.c (.int .i64 1)), none, [], .n []⟩] [.keep [0, 1, 7, 8, 9, 10]])
(.block 1
(.loop c_ref1_One_L0)))
(.seq (.seq (.reg 0 [
  ⟨some 81, .mv (.t 8), none, [], .n []⟩,
  ⟨some 82, .mv (.t 9), none, [], .n []⟩,
  ⟨some 83, .bin .lss (.t 81) (.t 82), none, [], .n []⟩,
  ⟨some 84, .mv (.t 83), none, [], .n []⟩,
  ⟨some 85, .mv (.t 8), (some (84, false)), [], .n []⟩,
  ⟨some 86, .bin .gtr (.t 85) (.c (.int .i32 1114111)), (some (84, false)), [], .n []⟩,
  ⟨some 87, .pick (.t 84) (.c (.bool true)) (.t 86), none, [], .n []⟩,
  ⟨some 88, .mv (.t 87), none, [], .n []⟩,
  ⟨some 89, .mv (.t 8), (some (88, false)), [], .n []⟩,
  ⟨some 90, .call F_ref1_in [(.t 89), (.c (.int .i32 55296)), (.c (.int .i32 57343))], (some (88, false)), [], .n []⟩,
  ⟨some 91, .pick (.t 88) (.c (.bool true)) (.t 90), none, [], .n []⟩] [.keep [7, 8, 91]])
(.cond (.t 91)
(.seq (.reg 0 [
  ⟨some 4, .mv (.c (.int .i32 0)), none, [], .n []⟩,
  ⟨some 5, .mv (.c (.int .i64 0)), none, [], .n []⟩] [.keep [4, 5]])
.ret)
(.gsk [.keep [7, 8]])))
(.seq (.reg 0 [
  ⟨some 92, .mv (.t 8), none, [], .n []⟩,
  ⟨some 93, .mv (.t 7), none, [], .n []⟩,
  ⟨some 4, .mv (.t 92), none, [], .n []⟩,
  ⟨some 5, .mv (.t 93), none, [], .n []⟩] [.keep [4, 5]])
.ret))))
def c_ref1_One : VCode := (.seq (.reg 0 [
  ⟨some 4, .mv (.c (.int .i32 0)), none, [], .n []⟩,
  ⟨some 5, .mv (.c (.int .i64 0)), none, [], .n []⟩] [.keep [0, 1]])
(.seq (.seq (.reg 0 [
  ⟨some 11, .mv (.t 1), none, [], .n []⟩,
  ⟨some 12, .mv (.t 0), none, [], .n []⟩,
  ⟨some 13, .lenS (.t 12), none, [], .n []⟩,
  ⟨some 14, .bin .geq (.t 11) (.t 13), none, [], .n []⟩] [.keep [0, 1, 14]])
(.cond (.t 14)
(.seq (.reg 0 [
  ⟨some 4, .mv (.c (.int .i32 0)), none, [], .n []⟩,
  ⟨some 5, .mv (.c (.int .i64 0)), none, [], .n []⟩] [.keep [4, 5]])
.ret)
(.gsk [.keep [0, 1]])))
(.seq (.reg 0 [
  ⟨some 15, .mv (.t 0), none, [], .n []⟩,
  ⟨some 16, .mv (.t 1), none, [], .n []⟩,
  ⟨some 17, .at (.t 15) (.t 16), none, [], .n []⟩,
  ⟨some 6, .mv (.t 17), none, [], .n []⟩] [.keep [0, 1, 6]])
(.seq (.reg 0 [
  ⟨some 7, .mv (.c (.int .i64 0)), none, [], .n []⟩,
  ⟨some 8, .mv (.c (.int .i32 0)), none, [], .n []⟩,
  ⟨some 9, .mv (.c (.int .i32 0)), none, [], .n []⟩] [.keep [0, 1, 6]])
(.seq (.block 0
(.seq (.reg 0 [
  ⟨some 19, .mv (.t 6), none, [], .n []⟩,
  ⟨some 20, .bin .lss (.t 19) (.c (.int .u8 128)), none, [], .n []⟩,
  ⟨some 18, .mv (.t 20), none, [], .n []⟩] [.keep [0, 1, 6, 18]])
(.cond (.t 18)
(.seq (.reg 0 [
  ⟨some 21, .mv (.t 6), none, [], .n []⟩,
  ⟨some 22, .cint .i32 (.t 21), none, [], .n []⟩,
  ⟨some 4, .mv (.t 22), none, [], .n []⟩,
  ⟨some 5, .mv (.c (.int .i64 1)), none, [], .n []⟩] [.keep [4, 5]])
.ret)
(.seq (.reg 0 [
  ⟨some 24, .mv (.t 6), none, [], .n []⟩,
  ⟨some 25, .bin .geq (.t 24) (.c (.int .u8 192)), none, [], .n []⟩,
  ⟨some 26, .mv (.t 25), none, [], .n []⟩,
  ⟨some 27, .mv (.t 6), (some (26, true)), [], .n []⟩,
  ⟨some 28, .bin .lss (.t 27) (.c (.int .u8 224)), (some (26, true)), [], .n []⟩,
  ⟨some 29, .pick (.t 26) (.t 28) (.c (.bool false)), none, [], .n []⟩,
  ⟨some 23, .mv (.t 29), none, [], .n []⟩] [.keep [0, 1, 6, 23]])
(.cond (.t 23)
(.reg 0 [
  ⟨some 30, .mv (.t 6), none, [], .n []⟩,
  ⟨some 31, .bin .and (.t 30) (.c (.int .u8 31)), none, [], .n []⟩,
  ⟨some 32, .cint .i32 (.t 31), none, [], .n []⟩,
  ⟨some 7, .mv (.c (.int .i64 2)), none, [], .n []⟩,
  ⟨some 8, .mv (.t 32), none, [], .n []⟩,
  ⟨some 9, .mv (.c (.int .i32 128)), none, [], .n []⟩] [.keep [0, 1, 7, 8, 9]])
(.seq (.reg 0 [
  ⟨some 34, .mv (.t 6), none, [], .n []⟩,
  ⟨some 35, .bin .geq (.t 34) (.c (.int .u8 224)), none, [], .n []⟩,
  ⟨some 36, .mv (.t 35), none, [], .n []⟩,
  ⟨some 37, .mv (.t 6), (some (36, true)), [], .n []⟩,
  ⟨some 38, .bin .lss (.t 37) (.c (.int .u8 240)), (some (36, true)), [], .n []⟩,
  ⟨some 39, .pick (.t 36) (.t 38) (.c (.bool false)), none, [], .n []⟩,
  ⟨some 33, .mv (.t 39), none, [], .n []⟩] [.keep [0, 1, 6, 33]])
(.cond (.t 33)
(.reg 0 [
  ⟨some 40, .mv (.t 6), none, [], .n []⟩,
  ⟨some 41, .bin .and (.t 40) (.c (.int .u8 15)), none, [], .n []⟩,
  ⟨some 42, .cint .i32 (.t 41), none, [], .n []⟩,
  ⟨some 7, .mv (.c (.int .i64 3)), none, [], .n []⟩,
  ⟨some 8, .mv (.t 42), none, [], .n []⟩,
  ⟨some 9, .mv (.c (.int .i32 2048)), none, [], .n []⟩] [.keep [0, 1, 7, 8, 9]])
(.seq (.reg 0 [
  ⟨some 44, .mv (.t 6), none, [], .n []⟩,
  ⟨some 45, .bin .geq (.t 44) (.c (.int .u8 240)), none, [], .n []⟩,
  ⟨some 46, .mv (.t 45), none, [], .n []⟩,
  ⟨some 47, .mv (.t 6), (some (46, true)), [], .n []⟩,
  ⟨some 48, .bin .lss (.t 47) (.c (.int .u8 248)), (some (46, true)), [], .n []⟩,
  ⟨some 49, .pick (.t 46) (.t 48) (.c (.bool false)), none, [], .n []⟩,
  ⟨some 43, .mv (.t 49), none, [], .n []⟩] [.keep [0, 1, 6, 43]])
(.cond (.t 43)
(.reg 0 [
  ⟨some 50, .mv (.t 6), none, [], .n []⟩,
  ⟨some 51, .bin .and (.t 50) (.c (.int .u8 7)), none, [], .n []⟩,
  ⟨some 52, .cint .i32 (.t 51), none, [], .n []⟩,
  ⟨some 7, .mv (.c (.int .i64 4)), none, [], .n []⟩,
  ⟨some 8, .mv (.t 52), none, [], .n []⟩,
  ⟨some 9, .mv (.c (.int .i32 65536)), none, [], .n []⟩] [.keep [0, 1, 7, 8, 9]])
(.seq (.reg 0 [
  ⟨some 4, .mv (.c (.int .i32 0)), none, [], .n []⟩,
  ⟨some 5, .mv (.c (.int .i64 0)), none, [], .n []⟩] [.keep [4, 5]])
.ret))))))))))
(.cut c_ref1_One_R14))))))
def r_ref1_One : List VRes := [.tmp 4, .tmp 5]
theorem k_ref1_One : Fits Tryz.prog F_ref1_One c_ref1_One r_ref1_One := .of Tryz.func108 (by kernel_rfl)
def c_ref1_Char : VCode := (.seq (.reg 0 [
  ⟨some 2, .mv (.c (.bool false)), none, [], .n []⟩] [.keep [0]])
(.seq (.reg 0 [
  ⟨some 3, .mv (.t 0), none, [], .n []⟩,
  ⟨some 4, .bin .eql (.t 3) (.c (.int .i32 9)), none, [], .n []⟩,
  ⟨some 5, .mv (.t 4), none, [], .n []⟩,
  ⟨some 6, .mv (.t 0), (some (5, false)), [], .n []⟩,
  ⟨some 7, .bin .eql (.t 6) (.c (.int .i32 10)), (some (5, false)), [], .n []⟩,
  ⟨some 8, .pick (.t 5) (.c (.bool true)) (.t 7), none, [], .n []⟩,
  ⟨some 9, .mv (.t 8), none, [], .n []⟩,
  ⟨some 10, .mv (.t 0), (some (9, false)), [], .n []⟩,
  ⟨some 11, .bin .eql (.t 10) (.c (.int .i32 13)), (some (9, false)), [], .n []⟩,
  ⟨some 12, .pick (.t 9) (.c (.bool true)) (.t 11), none, [], .n []⟩,
  ⟨some 13, .mv (.t 12), none, [], .n []⟩,
  ⟨some 14, .mv (.t 0), (some (13, false)), [], .n []⟩,
  ⟨some 15, .call F_ref1_in [(.t 14), (.c (.int .i32 32)), (.c (.int .i32 55295))], (some (13, false)), [], .n []⟩,
  ⟨some 16, .pick (.t 13) (.c (.bool true)) (.t 15), none, [], .n []⟩,
  ⟨some 17, .mv (.t 16), none, [], .n []⟩,
  ⟨some 18, .mv (.t 0), (some (17, false)), [], .n []⟩,
  ⟨some 19, .call F_ref1_in [(.t 18), (.c (.int .i32 57344)), (.c (.int .i32 65533))], (some (17, false)), [], .n []⟩,
  ⟨some 20, .pick (.t 17) (.c (.bool true)) (.t 19), none, [], .n []⟩,
  ⟨some 21, .mv (.t 20), none, [], .n []⟩,
  ⟨some 22, .mv (.t 0), (some (21, false)), [], .n []⟩,
  ⟨some 23, .call F_ref1_in [(.t 22), (.c (.int .i32 65536)), (.c (.int .i32 1114111))], (some (21, false)), [], .n []⟩,
  ⟨some 24, .pick (.t 21) (.c (.bool true)) (.t 23), none, [], .n []⟩,
  ⟨some 2, .mv (.t 24), none, [], .n []⟩] [.keep [2]])
.ret))
def r_ref1_Char : List VRes := [.tmp 2]
theorem k_ref1_Char : Fits Tryz.prog F_ref1_Char c_ref1_Char r_ref1_Char := .of Tryz.func109 (by kernel_rfl)
def c_ref1_NCName_L0 : VCode := (.seq (.seq (.reg 0 [
  ⟨some 4, .mv (.t 3), none, [], .n []⟩,
  ⟨some 5, .mv (.t 0), none, [], .n []⟩,
  ⟨some 6, .lenS (.t 5), none, [], .n []⟩,
  ⟨some 7, .bin .lss (.t 4) (.t 6), none, [], .n []⟩] [.keep [0, 3, 7]])
(.cond (.t 7)
(.gsk [.keep [0, 3]])
(.exit 0)))
(.seq (.block 1
(.seq (.reg 0 [
  ⟨some 10, .mv (.t 0), none, [], .n []⟩,
  ⟨some 11, .mv (.t 3), none, [], .n []⟩,
  ⟨some 12, .at (.t 10) (.t 11), none, [], .n []⟩,
  ⟨some 13, .bin .eql (.t 12) (.c (.int .u8 58)), none, [], .n []⟩] [.keep [0, 3, 13]])
(.cond (.t 13)
(.seq (.reg 0 [
  ⟨some 2, .mv (.c (.bool false)), none, [], .n []⟩] [.keep [2]])
.ret)
(.gsk [.keep [0, 3]]))))
(.reg 0 [
  ⟨some 8, .mv (.t 3), none, [], .n []⟩,
  ⟨some 9, .bin .add (.t 8) (.c (.int .i64 1)), none, [], .n []⟩,
  ⟨some 3, .mv (.t 9), none, [], .n []⟩] [.keep [0, 3]])))
def c_ref1_NCName : VCode := (.seq (.reg 0 [
  ⟨some 2, .mv (.c (.bool false)), none, [], .n []⟩] [.keep [0]])
(.seq (.seq (.reg 0 [
  ⟨some 3, .mv (.c (.int .i64 0)), none, [], .n []⟩] [.keep [0, 3]])
(.block 0
(.loop c_ref1_NCName_L0)))
(.seq (.reg 0 [
  ⟨some 14, .mv (.t 0), none, [], .n []⟩,
  ⟨some 15, .call F_ref1_Name [(.t 14)], none, [], .n []⟩,
  ⟨some 2, .mv (.t 15), none, [], .n []⟩] [.keep [2]])
.ret)))
def r_ref1_NCName : List VRes := [.tmp 2]
theorem k_ref1_NCName : Fits Tryz.prog F_ref1_NCName c_ref1_NCName r_ref1_NCName := .of Tryz.func110 (by kernel_rfl)
def c_ref10_lower_L0 : VCode := (.seq (.seq (.reg 0 [
  ⟨some 7, .mv (.t 4), none, [], .n []⟩,
  ⟨some 8, .mv (.t 3), none, [], .n []⟩,
  ⟨some 9, .lenL (.t 8), none, [], .n []⟩,
  ⟨some 10, .bin .lss (.t 7) (.t 9), none, [], .n []⟩] [.keep [3, 4, 10]])
(.cond (.t 10)
(.gsk [.keep [3, 4]])
(.exit 0)))
(.seq (.block 1
(.seq (.reg 0 [
  ⟨some 13, .mv (.t 3), none, [], .n []⟩,
  ⟨some 14, .mv (.t 4), none, [], .n []⟩,
  ⟨some 15, .idx 1 (.t 13) (.t 14), none, [], .n []⟩,
  ⟨some 16, .load (.t 15) false 1, none, [], .n []⟩,
  ⟨some 17, .bin .geq (.t 16) (.c (.int .u8 65)), none, [], .n []⟩,
  ⟨some 18, .mv (.t 17), none, [], .n []⟩,
  ⟨some 19, .mv (.t 3), (some (18, true)), [], .n []⟩,
  ⟨some 20, .mv (.t 4), (some (18, true)), [], .n []⟩,
  ⟨some 21, .idx 1 (.t 19) (.t 20), (some (18, true)), [], .n []⟩,
  ⟨some 22, .load (.t 21) false 1, (some (18, true)), [], .n []⟩,
  ⟨some 23, .bin .leq (.t 22) (.c (.int .u8 90)), (some (18, true)), [], .n []⟩,
  ⟨some 24, .pick (.t 18) (.t 23) (.c (.bool false)), none, [], .n []⟩] [.keep [3, 4, 24]])
(.cond (.t 24)
(.reg 0 [
  ⟨some 25, .mv (.t 3), none, [], .n []⟩,
  ⟨some 26, .mv (.t 4), none, [], .n []⟩,
  ⟨some 27, .mv (.t 3), none, [], .n []⟩,
  ⟨some 28, .mv (.t 4), none, [], .n []⟩,
  ⟨some 29, .idx 1 (.t 27) (.t 28), none, [], .n []⟩,
  ⟨some 30, .load (.t 29) false 1, none, [], .n []⟩,
  ⟨some 31, .bin .add (.t 30) (.c (.int .u8 32)), none, [], .n []⟩,
  ⟨some 32, .idx 1 (.t 25) (.t 26), none, [], .n []⟩,
  ⟨none, .store (.t 32) (.t 31) 1, none, [], .n []⟩] [.keep [3, 4]])
(.gsk [.keep [3, 4]]))))
(.reg 0 [
  ⟨some 11, .mv (.t 4), none, [], .n []⟩,
  ⟨some 12, .bin .add (.t 11) (.c (.int .i64 1)), none, [], .n []⟩,
  ⟨some 4, .mv (.t 12), none, [], .n []⟩] [.keep [3, 4]])))
def c_ref10_lower : VCode := (.seq (.reg 0 [
  ⟨some 2, .mv (.c (.str [])), none, [], .n []⟩] [.keep [0]])
(.seq (.reg 0 [
  ⟨some 5, .mv (.t 0), none, [], .n []⟩,
  ⟨some 6, .cbytes (.t 5) T_uint8, none, [], .n []⟩,
  ⟨some 3, .mv (.t 6), none, [], .n []⟩] [.keep [3]])
(.seq (.seq (.reg 0 [
  ⟨some 4, .mv (.c (.int .i64 0)), none, [], .n []⟩] [.keep [3, 4]])
(.block 0
(.loop c_ref10_lower_L0)))
(.seq (.reg 0 [
  ⟨some 33, .mv (.t 3), none, [], .n []⟩,
  ⟨some 34, .ctext (.t 33), none, [], .n []⟩,
  ⟨some 2, .mv (.t 34), none, [], .n []⟩] [.keep [2]])
.ret))))
def r_ref10_lower : List VRes := [.tmp 2]
theorem k_ref10_lower : Fits Tryz.prog F_ref10_lower c_ref10_lower r_ref10_lower := .of Tryz.func111 (by kernel_rfl)
def c_ref1_in : VCode := (.seq (.reg 0 [
  ⟨some 6, .mv (.c (.bool false)), none, [], .n []⟩] [.keep [0, 1, 2]])
(.seq (.reg 0 [
  ⟨some 7, .mv (.t 0), none, [], .n []⟩,
  ⟨some 8, .mv (.t 1), none, [], .n []⟩,
  ⟨some 9, .bin .geq (.t 7) (.t 8), none, [], .n []⟩,
  ⟨some 10, .mv (.t 9), none, [], .n []⟩,
  ⟨some 11, .mv (.t 0), (some (10, true)), [], .n []⟩,
  ⟨some 12, .mv (.t 2), (some (10, true)), [], .n []⟩,
  ⟨some 13, .bin .leq (.t 11) (.t 12), (some (10, true)), [], .n []⟩,
  ⟨some 14, .pick (.t 10) (.t 13) (.c (.bool false)), none, [], .n []⟩,
  ⟨some 6, .mv (.t 14), none, [], .n []⟩] [.keep [6]])
.ret))
def r_ref1_in : List VRes := [.tmp 6]
theorem k_ref1_in : Fits Tryz.prog F_ref1_in c_ref1_in r_ref1_in := .of Tryz.func137 (by kernel_rfl)
def c_ref1_Name : VCode := (.seq (.reg 0 [
  ⟨some 2, .mv (.c (.bool false)), none, [], .n []⟩] [.keep [0]])
(.seq (.reg 0 [
  ⟨some 3, .mv (.t 0), none, [], .n []⟩,
  ⟨some 4, .bin .neq (.t 3) (.c (.str [])), none, [], .n []⟩,
  ⟨some 5, .mv (.t 4), none, [], .n []⟩,
  ⟨some 6, .mv (.t 0), (some (5, true)), [], .n []⟩,
  ⟨some 7, .call F_ref1_Run [(.t 6), (.c (.int .i64 0))], (some (5, true)), [], .n []⟩,
  ⟨some 8, .mv (.t 0), (some (5, true)), [], .n []⟩,
  ⟨some 9, .lenS (.t 8), (some (5, true)), [], .n []⟩,
  ⟨some 10, .bin .eql (.t 7) (.t 9), (some (5, true)), [], .n []⟩,
  ⟨some 11, .pick (.t 5) (.t 10) (.c (.bool false)), none, [], .n []⟩,
  ⟨some 2, .mv (.t 11), none, [], .n []⟩] [.keep [2]])
.ret))
def r_ref1_Name : List VRes := [.tmp 2]
theorem k_ref1_Name : Fits Tryz.prog F_ref1_Name c_ref1_Name r_ref1_Name := .of Tryz.func138 (by kernel_rfl)
def c_ref1_Run_L0 : VCode := (.block 1
(.seq (.reg 0 [
  ⟨some 10, .mv (.t 0), none, [], .n []⟩,
  ⟨some 11, .mv (.t 5), none, [], .n []⟩,
  ⟨some 12, .call F_ref1_One [(.t 10), (.t 11)], none, [], .n []⟩,
  ⟨some 9, .mv (.t 12), none, [], .n []⟩,
  ⟨some 13, .ext (.t 9) 0, none, [], .n []⟩,
  ⟨some 14, .ext (.t 9) 1, none, [], .n []⟩,
  ⟨some 6, .mv (.t 13), none, [], .n []⟩,
  ⟨some 7, .mv (.t 14), none, [], .n []⟩] [.keep [0, 1, 5, 6, 7]])
(.seq (.seq (.reg 0 [
  ⟨some 15, .mv (.t 7), none, [], .n []⟩,
  ⟨some 16, .bin .eql (.t 15) (.c (.int .i64 0)), none, [], .n []⟩,
  ⟨some 17, .mv (.t 16), none, [], .n []⟩,
  ⟨some 18, .mv (.t 6), (some (17, false)), [], .n []⟩,
  ⟨some 19, .call F_ref1_Part [(.t 18)], (some (17, false)), [], .n []⟩,
  ⟨some 20, .un .not (.t 19), (some (17, false)), [], .n []⟩,
  ⟨some 21, .pick (.t 17) (.c (.bool true)) (.t 20), none, [], .n []⟩,
  ⟨some 22, .mv (.t 21), none, [], .n []⟩,
  ⟨some 23, .mv (.t 5), (some (22, false)), [], .n []⟩,
  ⟨some 24, .mv (.t 1), (some (22, false)), [], .n []⟩,
  ⟨some 25, .bin .eql (.t 23) (.t 24), (some (22, false)), [], .n []⟩,
  ⟨some 26, .mv (.t 25), (some (22, false)), [], .n []⟩,
  ⟨some 27, .mv (.t 6), (some (26, true)), [], .n []⟩,
  ⟨some 28, .call F_ref1_Start [(.t 27)], (some (26, true)), [], .n []⟩,
  ⟨some 29, .un .not (.t 28), (some (26, true)), [], .n []⟩,
  ⟨some 30, .pick (.t 26) (.t 29) (.c (.bool false)), (some (22, false)), [], .n []⟩,
  ⟨some 31, .pick (.t 22) (.c (.bool true)) (.t 30), none, [], .n []⟩] [.keep [0, 1, 5, 7, 31]])
(.cond (.t 31)
(.seq (.reg 0 [
  ⟨some 32, .mv (.t 5), none, [], .n []⟩,
  ⟨some 4, .mv (.t 32), none, [], .n []⟩] [.keep [4]])
.ret)
(.gsk [.keep [0, 1, 5, 7]])))
(.reg 0 [
  ⟨some 33, .mv (.t 5), none, [], .n []⟩,
  ⟨some 34, .mv (.t 7), none, [], .n []⟩,
  ⟨some 35, .bin .add (.t 33) (.t 34), none, [], .n []⟩,
  ⟨some 5, .mv (.t 35), none, [], .n []⟩] [.keep [0, 1, 5]]))))
def c_ref1_Run : VCode := (.seq (.reg 0 [
  ⟨some 4, .mv (.c (.int .i64 0)), none, [], .n []⟩] [.keep [0, 1]])
(.seq (.reg 0 [
  ⟨some 8, .mv (.t 1), none, [], .n []⟩,
  ⟨some 5, .mv (.t 8), none, [], .n []⟩] [.keep [0, 1, 5]])
(.block 0
(.loop c_ref1_Run_L0))))
def r_ref1_Run : List VRes := [.tmp 4]
theorem k_ref1_Run : Fits Tryz.prog F_ref1_Run c_ref1_Run r_ref1_Run := .of Tryz.func177 (by kernel_rfl)
def c_ref1_Part : VCode := (.seq (.reg 0 [
  ⟨some 2, .mv (.c (.bool false)), none, [], .n []⟩] [.keep [0]])
(.seq (.reg 0 [
  ⟨some 3, .mv (.t 0), none, [], .n []⟩,
  ⟨some 4, .call F_ref1_Start [(.t 3)], none, [], .n []⟩,
  ⟨some 5, .mv (.t 4), none, [], .n []⟩,
  ⟨some 6, .mv (.t 0), (some (5, false)), [], .n []⟩,
  ⟨some 7, .bin .eql (.t 6) (.c (.int .i32 45)), (some (5, false)), [], .n []⟩,
  ⟨some 8, .pick (.t 5) (.c (.bool true)) (.t 7), none, [], .n []⟩,
  ⟨some 9, .mv (.t 8), none, [], .n []⟩,
  ⟨some 10, .mv (.t 0), (some (9, false)), [], .n []⟩,
  ⟨some 11, .bin .eql (.t 10) (.c (.int .i32 46)), (some (9, false)), [], .n []⟩,
  ⟨some 12, .pick (.t 9) (.c (.bool true)) (.t 11), none, [], .n []⟩,
  ⟨some 13, .mv (.t 12), none, [], .n []⟩,
  ⟨some 14, .mv (.t 0), (some (13, false)), [], .n []⟩,
  ⟨some 15, .call F_ref1_in [(.t 14), (.c (.int .i32 48)), (.c (.int .i32 57))], (some (13, false)), [], .n []⟩,
  ⟨some 16, .pick (.t 13) (.c (.bool true)) (.t 15), none, [], .n []⟩,
  ⟨some 17, .mv (.t 16), none, [], .n []⟩,
  ⟨some 18, .mv (.t 0), (some (17, false)), [], .n []⟩,
  ⟨some 19, .bin .eql (.t 18) (.c (.int .i32 183)), (some (17, false)), [], .n []⟩,
  ⟨some 20, .pick (.t 17) (.c (.bool true)) (.t 19), none, [], .n []⟩,
  ⟨some 21, .mv (.t 20), none, [], .n []⟩,
  ⟨some 22, .mv (.t 0), (some (21, false)), [], .n []⟩,
  ⟨some 23, .call F_ref1_in [(.t 22), (.c (.int .i32 768)), (.c (.int .i32 879))], (some (21, false)), [], .n []⟩,
  ⟨some 24, .pick (.t 21) (.c (.bool true)) (.t 23), none, [], .n []⟩,
  ⟨some 25, .mv (.t 24), none, [], .n []⟩,
  ⟨some 26, .mv (.t 0), (some (25, false)), [], .n []⟩,
  ⟨some 27, .call F_ref1_in [(.t 26), (.c (.int .i32 8255)), (.c (.int .i32 8256))], (some (25, false)), [], .n []⟩,
  ⟨some 28, .pick (.t 25) (.c (.bool true)) (.t 27), none, [], .n []⟩,
  ⟨some 2, .mv (.t 28), none, [], .n []⟩] [.keep [2]])
.ret))
def r_ref1_Part : List VRes := [.tmp 2]
theorem k_ref1_Part : Fits Tryz.prog F_ref1_Part c_ref1_Part r_ref1_Part := .of Tryz.func199 (by kernel_rfl)
def c_ref1_Start : VCode := (.seq (.reg 0 [
  ⟨some 2, .mv (.c (.bool false)), none, [], .n []⟩] [.keep [0]])
(.seq (.reg 0 [
  ⟨some 3, .mv (.t 0), none, [], .n []⟩,
  ⟨some 4, .call F_ref1_in [(.t 3), (.c (.int .i32 65)), (.c (.int .i32 90))], none, [], .n []⟩,
  ⟨some 5, .mv (.t 4), none, [], .n []⟩,
  ⟨some 6, .mv (.t 0), (some (5, false)), [], .n []⟩,
  ⟨some 7, .call F_ref1_in [(.t 6), (.c (.int .i32 97)), (.c (.int .i32 122))], (some (5, false)), [], .n []⟩,
  ⟨some 8, .pick (.t 5) (.c (.bool true)) (.t 7), none, [], .n []⟩,
  ⟨some 9, .mv (.t 8), none, [], .n []⟩,
  ⟨some 10, .mv (.t 0), (some (9, false)), [], .n []⟩,
  ⟨some 11, .bin .eql (.t 10) (.c (.int .i32 95)), (some (9, false)), [], .n []⟩,
  ⟨some 12, .pick (.t 9) (.c (.bool true)) (.t 11), none, [], .n []⟩,
  ⟨some 13, .mv (.t 12), none, [], .n []⟩,
  ⟨some 14, .mv (.t 0), (some (13, false)), [], .n []⟩,
  ⟨some 15, .bin .eql (.t 14) (.c (.int .i32 58)), (some (13, false)), [], .n []⟩,
  ⟨some 16, .pick (.t 13) (.c (.bool true)) (.t 15), none, [], .n []⟩,
  ⟨some 17, .mv (.t 16), none, [], .n []⟩,
  ⟨some 18, .mv (.t 0), (some (17, false)), [], .n []⟩,
  ⟨some 19, .call F_ref1_in [(.t 18), (.c (.int .i32 192)), (.c (.int .i32 214))], (some (17, false)), [], .n []⟩,
  ⟨some 20, .pick (.t 17) (.c (.bool true)) (.t 19), none, [], .n []⟩,
  ⟨some 21, .mv (.t 20), none, [], .n []⟩,
  ⟨some 22, .mv (.t 0), (some (21, false)), [], .n []⟩,
  ⟨some 23, .call F_ref1_in [(.t 22), (.c (.int .i32 216)), (.c (.int .i32 246))], (some (21, false)), [], .n []⟩,
  ⟨some 24, .pick (.t 21) (.c (.bool true)) (.t 23), none, [], .n []⟩,
  ⟨some 25, .mv (.t 24), none, [], .n []⟩,
  ⟨some 26, .mv (.t 0), (some (25, false)), [], .n []⟩,
  ⟨some 27, .call F_ref1_in [(.t 26), (.c (.int .i32 248)), (.c (.int .i32 767))], (some (25, false)), [], .n []⟩,
  ⟨some 28, .pick (.t 25) (.c (.bool true)) (.t 27), none, [], .n []⟩,
  ⟨some 29, .mv (.t 28), none, [], .n []⟩,
  ⟨some 30, .mv (.t 0), (some (29, false)), [], .n []⟩,
  ⟨some 31, .call F_ref1_in [(.t 30), (.c (.int .i32 880)), (.c (.int .i32 893))], (some (29, false)), [], .n []⟩,
  ⟨some 32, .pick (.t 29) (.c (.bool true)) (.t 31), none, [], .n []⟩,
  ⟨some 33, .mv (.t 32), none, [], .n []⟩,
  ⟨some 34, .mv (.t 0), (some (33, false)), [], .n []⟩,
  ⟨some 35, .call F_ref1_in [(.t 34), (.c (.int .i32 895)), (.c (.int .i32 8191))], (some (33, false)), [], .n []⟩,
  ⟨some 36, .pick (.t 33) (.c (.bool true)) (.t 35), none, [], .n []⟩,
  ⟨some 37, .mv (.t 36), none, [], .n []⟩,
  ⟨some 38, .mv (.t 0), (some (37, false)), [], .n []⟩,
  ⟨some 39, .call F_ref1_in [(.t 38), (.c (.int .i32 8204)), (.c (.int .i32 8205))], (some (37, false)), [], .n []⟩,
  ⟨some 40, .pick (.t 37) (.c (.bool true)) (.t 39), none, [], .n []⟩,
  ⟨some 41, .mv (.t 40), none, [], .n []⟩,
  ⟨some 42, .mv (.t 0), (some (41, false)), [], .n []⟩,
  ⟨some 43, .call F_ref1_in [(.t 42), (.c (.int .i32 8304)), (.c (.int .i32 8591))], (some (41, false)), [], .n []⟩,
  ⟨some 44, .pick (.t 41) (.c (.bool true)) (.t 43), none, [], .n []⟩,
  ⟨some 45, .mv (.t 44), none, [], .n []⟩,
  ⟨some 46, .mv (.t 0), (some (45, false)), [], .n []⟩,
  ⟨some 47, .call F_ref1_in [(.t 46), (.c (.int .i32 11264)), (.c (.int .i32 12271))], (some (45, false)), [], .n []⟩,
  ⟨some 48, .pick (.t 45) (.c (.bool true)) (.t 47), none, [], .n []⟩,
  ⟨some 49, .mv (.t 48), none, [], .n []⟩,
  ⟨some 50, .mv (.t 0), (some (49, false)), [], .n []⟩,
  ⟨some 51, .call F_ref1_in [(.t 50), (.c (.int .i32 12289)), (.c (.int .i32 55295))], (some (49, false)), [], .n []⟩,
  ⟨some 52, .pick (.t 49) (.c (.bool true)) (.t 51), none, [], .n []⟩,
  ⟨some 53, .mv (.t 52), none, [], .n []⟩,
  ⟨some 54, .mv (.t 0), (some (53, false)), [], .n []⟩,
  ⟨some 55, .call F_ref1_in [(.t 54), (.c (.int .i32 63744)), (.c (.int .i32 64975))], (some (53, false)), [], .n []⟩,
  ⟨some 56, .pick (.t 53) (.c (.bool true)) (.t 55), none, [], .n []⟩,
  ⟨some 57, .mv (.t 56), none, [], .n []⟩,
  ⟨some 58, .mv (.t 0), (some (57, false)), [], .n []⟩,
  ⟨some 59, .call F_ref1_in [(.t 58), (.c (.int .i32 65008)), (.c (.int .i32 65533))], (some (57, false)), [], .n []⟩,
  ⟨some 60, .pick (.t 57) (.c (.bool true)) (.t 59), none, [], .n []⟩,
  ⟨some 61, .mv (.t 60), none, [], .n []⟩,
  ⟨some 62, .mv (.t 0), (some (61, false)), [], .n []⟩,
  ⟨some 63, .call F_ref1_in [(.t 62), (.c (.int .i32 65536)), (.c (.int .i32 983039))], (some (61, false)), [], .n []⟩,
  ⟨some 64, .pick (.t 61) (.c (.bool true)) (.t 63), none, [], .n []⟩,
  ⟨some 2, .mv (.t 64), none, [], .n []⟩] [.keep [2]])
.ret))
def r_ref1_Start : List VRes := [.tmp 2]
theorem k_ref1_Start : Fits Tryz.prog F_ref1_Start c_ref1_Start r_ref1_Start := .of Tryz.func200 (by kernel_rfl)
end Go.Proofs.YtpcbnpekdmobpaaGreatDoor

