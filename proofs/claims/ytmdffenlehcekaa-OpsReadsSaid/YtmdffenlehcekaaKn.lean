/- Printed by a program of this repo: what the functions come to. -/
import Derived.Test.YtmdffenlehcekaaProg
import Derived.Test.YtmdffenlehcekaaKa3
set_option linter.unusedVariables false
set_option linter.unusedSimpArgs false
set_option maxRecDepth 100000
namespace Go.Proofs.Ytmdffenlehcekaa
open Go Go.Am
abbrev fn_main_main : FuncId := 0
abbrev fn_gosem_cut : FuncId := 1
abbrev fn_gosem_cut_init : FuncId := 2
abbrev fn_trammellaw12_OpsReads : FuncId := 3
abbrev fn_trammellaw12_OpsTakes : FuncId := 4
abbrev fn_trammellaw12_OpsKnown : FuncId := 5
abbrev fn_trammellaw13_ImageUnlike : FuncId := 6
abbrev fn_trammellaw13_ImageSame : FuncId := 7
abbrev fn_trammellaw13_ImageOnce : FuncId := 8
abbrev fn_trammellaw13_ImageSpoilt : FuncId := 9
abbrev fn_trammellaw19_BlocksCuts : FuncId := 10
abbrev fn_trammellaw19_BlocksReaches : FuncId := 11
abbrev fn_trammellaw19_BlocksTile : FuncId := 12
abbrev fn_trammellaw19_BlocksJoin : FuncId := 13
abbrev fn_trammellaw19_BlocksLeast : FuncId := 14
abbrev fn_trammellaw19_BlocksKnown : FuncId := 15
abbrev fn_trammellaw12_works : FuncId := 16
abbrev fn_trammelkit_LentCode : FuncId := 17
abbrev fn_trammelref12_Decode : FuncId := 18
abbrev fn_ops_Decode : FuncId := 19
abbrev fn_trammelref12_All : FuncId := 20
abbrev fn_ops_All : FuncId := 21
abbrev fn_trammelkit_SameInstr : FuncId := 22
abbrev fn_trammelkit_SameInstrs : FuncId := 23
abbrev fn_trammelkit_SameInts : FuncId := 24
abbrev fn_trammelkit_KeptCode : FuncId := 25
abbrev fn_trammelkit_Bulk : FuncId := 26
abbrev fn_trammelkit_LentInstr : FuncId := 27
abbrev fn_trammelkit_LentModule : FuncId := 28
abbrev fn_trammelref12_Takes : FuncId := 29
abbrev fn_ops_Takes : FuncId := 30
abbrev fn_trammelkit_KeptInstr : FuncId := 31
abbrev fn_trammelkit_KeptModule : FuncId := 32
abbrev fn_trammellaw12_bytes : FuncId := 33
abbrev fn_ops_Encode : FuncId := 34
abbrev fn_ops_Size : FuncId := 35
abbrev fn_trammellaw12_wrong : FuncId := 36
abbrev fn_trammellaw13_works : FuncId := 37
abbrev fn_image_Encode : FuncId := 38
abbrev fn_trammelkit_SameModule : FuncId := 39
abbrev fn_image_Same : FuncId := 40
abbrev fn_image_Load : FuncId := 41
abbrev fn_trammelkit_Pick : FuncId := 42
abbrev fn_trammellaw19_works : FuncId := 43
abbrev fn_trammelref19_Of : FuncId := 44
abbrev fn_blocks_Of : FuncId := 45
abbrev fn_trammellaw19_same : FuncId := 46
abbrev fn_trammelkit_LentInts : FuncId := 47
abbrev fn_blocks_Reach : FuncId := 48
abbrev fn_trammelref19_Reach : FuncId := 49
abbrev fn_trammelkit_KeptInts : FuncId := 50
abbrev fn_trammelkit_SpoilInts : FuncId := 51
abbrev fn_trammellaw19_has : FuncId := 52
abbrev fn_trammellaw19_ends : FuncId := 53
abbrev fn_trammellaw19_found : FuncId := 54
abbrev fn_trammellaw19_is : FuncId := 55
abbrev fn_ops_Name : FuncId := 56
abbrev fn_trammelref12_parts : FuncId := 57
abbrev fn_trammelref12_reader_number : FuncId := 58
abbrev fn_trammelref12_reader_arms : FuncId := 59
abbrev fn_trammelref12_leap : FuncId := 60
abbrev fn_ops_layout : FuncId := 61
abbrev fn_ops_reader_read : FuncId := 62
abbrev fn_ops_between : FuncId := 63
abbrev fn_ops_fits : FuncId := 64
abbrev fn_trammelref12_is : FuncId := 65
abbrev fn_trammelref12_own : FuncId := 66
abbrev fn_trammelref12_made : FuncId := 67
abbrev fn_trammelref12_plain : FuncId := 68
abbrev fn_ops_of : FuncId := 69
abbrev fn_ops_effect_gives : FuncId := 70
abbrev fn_ops_effect_given : FuncId := 71
abbrev fn_slices_Clone_Sint_int : FuncId := 72
abbrev fn_ops_made : FuncId := 73
abbrev fn_ops_plain : FuncId := 74
abbrev fn_ops_put : FuncId := 75
abbrev fn_ops_number : FuncId := 76
abbrev fn_ops_arms : FuncId := 77
abbrev fn_image_structure : FuncId := 78
abbrev fn_image_body : FuncId := 79
abbrev fn_slices_Concat_Sbyte_byte : FuncId := 80
abbrev fn_wire_Fixed : FuncId := 81
abbrev fn_wire_Sum : FuncId := 82
abbrev fn_trammelkit_SameType : FuncId := 83
abbrev fn_trammelkit_SameRoutine : FuncId := 84
abbrev fn_image_Same_1 : FuncId := 85
abbrev fn_slices_Equal_Sapi_Field_api_Field : FuncId := 86
abbrev fn_image_Same_2 : FuncId := 87
abbrev fn_slices_Equal_Sint_int : FuncId := 88
abbrev fn_bytes_Equal : FuncId := 89
abbrev fn_slices_EqualFunc_Sapi_Type_Sapi_Type_api_Type_api_Type : FuncId := 90
abbrev fn_slices_Equal_Sstring_string : FuncId := 91
abbrev fn_slices_EqualFunc_Sapi_Routine_Sapi_Routine_api_Routine_api_Routine : FuncId := 92
abbrev fn_image_outside : FuncId := 93
abbrev fn_image_Load_1 : FuncId := 94
abbrev fn_image_reader_module : FuncId := 95
abbrev fn_trammelref19_heads : FuncId := 96
abbrev fn_trammelref19_Has : FuncId := 97
abbrev fn_trammelref19_Leads : FuncId := 98
abbrev fn_blocks_leads : FuncId := 99
abbrev fn_slices_Sort_Sint_int : FuncId := 100
abbrev fn_slices_Contains_Sint_int : FuncId := 101
abbrev fn_slices_Sorted_int : FuncId := 102
abbrev fn_maps_Keys_map_int_int_int_int : FuncId := 103
abbrev fn_trammelref19_With : FuncId := 104
abbrev fn_trammelref12_place : FuncId := 105
abbrev fn_trammelref12_width : FuncId := 106
abbrev fn_trammelref12_within : FuncId := 107
abbrev fn_trammelref02_Bits : FuncId := 108
abbrev fn_wire_Wide : FuncId := 109
abbrev fn_ops_between_1 : FuncId := 110
abbrev fn_ops_fits_1 : FuncId := 111
abbrev fn_word_Fits : FuncId := 112
abbrev fn_trammelref02_Fits : FuncId := 113
abbrev fn_trammelref12_typed : FuncId := 114
abbrev fn_ops_typed : FuncId := 115
abbrev fn_slices_ContainsFunc_Sapi_Field_api_Field : FuncId := 116
abbrev fn_image_structure_1 : FuncId := 117
abbrev fn_image_mayType : FuncId := 118
abbrev fn_slices_ContainsFunc_Sstring_string : FuncId := 119
abbrev fn_image_structure_2 : FuncId := 120
abbrev fn_image_mayFunc : FuncId := 121
abbrev fn_image_writer_number : FuncId := 122
abbrev fn_image_writer_put : FuncId := 123
abbrev fn_image_writer_text : FuncId := 124
abbrev fn_image_writer_numbers : FuncId := 125
abbrev fn_slices_Grow_Sbyte_byte : FuncId := 126
abbrev fn_trammelkit_SameFields : FuncId := 127
abbrev fn_image_reader_count : FuncId := 128
abbrev fn_image_reader_one : FuncId := 129
abbrev fn_image_reader_text : FuncId := 130
abbrev fn_image_reader_numbers : FuncId := 131
abbrev fn_image_reader_number : FuncId := 132
abbrev fn_bytes_Clone : FuncId := 133
abbrev fn_image_reader_octets : FuncId := 134
abbrev fn_trammelref19_Ends : FuncId := 135
abbrev fn_slices_Compact_Sint_int : FuncId := 136
abbrev fn_slices_pdqsortOrdered_int : FuncId := 137
abbrev fn_math_bits_Len : FuncId := 138
abbrev fn_slices_Index_Sint_int : FuncId := 139
abbrev fn_slices_Collect_int : FuncId := 140
abbrev fn_maps_Keys_map_int_int_int_int_1 : FuncId := 141
abbrev fn_word_Bits : FuncId := 142
abbrev fn_word_Wrap : FuncId := 143
abbrev fn_trammelref02_Wrap : FuncId := 144
abbrev fn_slices_Contains_Suint8_uint8 : FuncId := 145
abbrev fn_slices_IndexFunc_Sapi_Field_api_Field : FuncId := 146
abbrev fn_image_there : FuncId := 147
abbrev fn_image_mayType_1 : FuncId := 148
abbrev fn_slices_IndexFunc_Sstring_string : FuncId := 149
abbrev fn_image_mayFunc_1 : FuncId := 150
abbrev fn_slices_ContainsFunc_Sint_int : FuncId := 151
abbrev fn_slices_ContainsFunc_Sapi_Instr_api_Instr : FuncId := 152
abbrev fn_image_mayFunc_2 : FuncId := 153
abbrev fn_wire_Put : FuncId := 154
abbrev fn_wire_Get : FuncId := 155
abbrev fn_slices_insertionSortOrdered_int : FuncId := 156
abbrev fn_slices_heapSortOrdered_int : FuncId := 157
abbrev fn_slices_breakPatternsOrdered_int : FuncId := 158
abbrev fn_slices_choosePivotOrdered_int : FuncId := 159
abbrev fn_slices_reverseRangeOrdered_int : FuncId := 160
abbrev fn_slices_partialInsertionSortOrdered_int : FuncId := 161
abbrev fn_cmp_Less_int : FuncId := 162
abbrev fn_slices_partitionEqualOrdered_int : FuncId := 163
abbrev fn_slices_partitionOrdered_int : FuncId := 164
abbrev fn_math_bits_Len32 : FuncId := 165
abbrev fn_math_bits_Len64 : FuncId := 166
abbrev fn_slices_AppendSeq_Sint_int : FuncId := 167
abbrev fn_slices_Index_Suint8_uint8 : FuncId := 168
abbrev fn_slices_IndexFunc_Sint_int : FuncId := 169
abbrev fn_slices_IndexFunc_Sapi_Instr_api_Instr : FuncId := 170
abbrev fn_slices_siftDownOrdered_int : FuncId := 171
abbrev fn_slices_nextPowerOfTwo : FuncId := 172
abbrev fn_slices_xorshift_Next : FuncId := 173
abbrev fn_slices_medianAdjacentOrdered_int : FuncId := 174
abbrev fn_slices_medianOrdered_int : FuncId := 175
abbrev fn_cmp_isNaN_int : FuncId := 176
abbrev fn_slices_order2Ordered_int : FuncId := 177
abbrev fn_runtime_boundsError_Error : FuncId := 178
abbrev fn_runtime_boundsError_RuntimeError : FuncId := 179
abbrev fn_runtime_errorString_Error : FuncId := 180
abbrev fn_runtime_errorString_RuntimeError : FuncId := 181
abbrev fn_runtime_plainError_Error : FuncId := 182
abbrev fn_runtime_plainError_RuntimeError : FuncId := 183
abbrev fn_runtime_errorAddressString_Error : FuncId := 184
abbrev fn_runtime_errorAddressString_RuntimeError : FuncId := 185
abbrev fn_runtime_TypeAssertionError_Error : FuncId := 186
abbrev fn_runtime_TypeAssertionError_RuntimeError : FuncId := 187
abbrev fn_runtime_PanicNilError_Error : FuncId := 188
abbrev fn_runtime_PanicNilError_RuntimeError : FuncId := 189
abbrev fn_internal_abi_Type_Align : FuncId := 190
abbrev fn_internal_runtime_maps_unhashableTypeError_Error : FuncId := 191
abbrev fn_internal_runtime_maps_unhashableTypeError_RuntimeError : FuncId := 192
abbrev fn_api_Errno_Error : FuncId := 193
abbrev fn_internal_abi_Kind_String : FuncId := 194
abbrev T_int64 : TypeId := 2
abbrev T_int : TypeId := 3
abbrev T_bool : TypeId := 4
abbrev T_uint8 : TypeId := 5
abbrev T_abi_BoundsErrorCode : TypeId := 6
abbrev T_runtime_boundsError : TypeId := 8
abbrev T_string : TypeId := 9
abbrev T_runtime_errorString : TypeId := 10
abbrev T_runtime_plainError : TypeId := 11
abbrev T_uintptr : TypeId := 12
abbrev T_runtime_errorAddressString : TypeId := 14
abbrev T_Pruntime_TypeAssertionError : TypeId := 15
abbrev T_Pruntime_PanicNilError : TypeId := 16
abbrev T_Pabi_Type : TypeId := 17
abbrev T_maps_unhashableTypeError : TypeId := 19
abbrev T_int32 : TypeId := 21
abbrev T_Suint8 : TypeId := 22
abbrev T_Sapi_Arm : TypeId := 25
abbrev T_api_Instr : TypeId := 27
abbrev T_api_Errno : TypeId := 28
abbrev T_Sapi_Instr : TypeId := 31
abbrev T_Sint : TypeId := 32
abbrev T_api_Arm : TypeId := 40
abbrev T_Sapi_Type : TypeId := 42
abbrev T_Sstring : TypeId := 43
abbrev T_Sapi_Routine : TypeId := 44
abbrev T_api_Module : TypeId := 46
abbrev T_api_Field : TypeId := 60
abbrev T_Sapi_Field : TypeId := 61
abbrev T_api_Type : TypeId := 63
abbrev T_Sblocks_Block : TypeId := 70
abbrev T_blocks_Block : TypeId := 75
abbrev T_Strammelref12_part : TypeId := 85
abbrev T_Ptrammelref12_reader : TypeId := 88
abbrev T_trammelref12_reader : TypeId := 90
abbrev T_trammelref12_part : TypeId := 93
abbrev T_Sops_field : TypeId := 96
abbrev T_Pops_reader : TypeId := 99
abbrev T_ops_reader : TypeId := 101
abbrev T_ops_field : TypeId := 104
abbrev T_api_Routine : TypeId := 109
abbrev T_ops_effect : TypeId := 116
abbrev T_uint64 : TypeId := 129
abbrev T_uint32 : TypeId := 130
abbrev T_image_fault : TypeId := 141
abbrev T_Pimage_reader : TypeId := 143
abbrev T_image_reader : TypeId := 145
abbrev T_map_int_int : TypeId := 149
abbrev T_Pblocks_Block : TypeId := 152
abbrev T_iter_Seq_int : TypeId := 156
abbrev T_53_string : TypeId := 159
abbrev T_Pimage_writer : TypeId := 175
abbrev T_image_writer : TypeId := 177
abbrev T_SSuint8 : TypeId := 181
abbrev T_uint : TypeId := 183
abbrev T_slices_sortedHint : TypeId := 204
abbrev T_int8 : TypeId := 214
abbrev T_slices_xorshift : TypeId := 218
abbrev T_Pint : TypeId := 222
abbrev T_Pslices_xorshift : TypeId := 224
abbrev T_runtime_TypeAssertionError : TypeId := 229
abbrev T_0_Pruntime_PanicNilError : TypeId := 230
abbrev T_runtime_PanicNilError : TypeId := 232
abbrev T_abi_TFlag : TypeId := 233
abbrev T_abi_Kind : TypeId := 234
abbrev T_Puint8 : TypeId := 236
abbrev T_abi_NameOff : TypeId := 237
abbrev T_abi_TypeOff : TypeId := 238
abbrev T_abi_Type : TypeId := 240
abbrev T_unsafe_Pointer : TypeId := 241
def keep_gosem_cut_init : Nat → Option (List Nat)
  | _ => none
def keep_trammellaw12_OpsReads : Nat → Option (List Nat)
  | 11 => some [5, 12, 13, 15, 16, 18]
  | 12 => some [5, 12, 13, 15, 16, 18]
  | 14 => some [5, 12, 13, 15, 16, 18, 19]
  | 17 => some [5, 12, 13, 15, 16, 18]
  | 19 => some [5, 12, 13]
  | 1000010 => some [5, 12, 13, 15, 16, 91]
  | _ => none
def keep_trammellaw12_OpsTakes : Nat → Option (List Nat)
  | 10 => some [2, 3, 5, 6, 10, 11, 13]
  | 13 => some [2, 3, 5, 6, 11]
  | 14 => some [2, 3, 5, 6, 11, 14]
  | 17 => some [2, 3, 5, 6]
  | 1000003 => some [2, 3, 23]
  | 1000009 => some [2, 3, 5, 6, 10, 11, 57]
  | _ => none
def keep_trammellaw12_OpsKnown : Nat → Option (List Nat)
  | 2 => some [1]
  | 4 => some [1, 2, 3]
  | 9 => some [1]
  | 11 => some [1, 6, 7]
  | 17 => some [1]
  | 18 => some [1, 13]
  | 23 => some [1, 13, 17, 24]
  | 25 => some [1, 13, 17, 24, 25, 26]
  | 30 => some [1, 13, 24]
  | 1000009 => some [1, 2, 3, 116]
  | 1000017 => some [1, 6, 7, 169]
  | _ => none
def keep_trammellaw13_ImageUnlike : Nat → Option (List Nat)
  | 1000003 => some [2, 3, 16]
  | 1000007 => some [2, 3, 5, 7, 33]
  | _ => none
def keep_trammellaw13_ImageSame : Nat → Option (List Nat)
  | 1000003 => some [2, 3, 12]
  | _ => none
def keep_trammellaw13_ImageOnce : Nat → Option (List Nat)
  | _ => none
def keep_trammellaw13_ImageSpoilt : Nat → Option (List Nat)
  | 1000010 => some [2, 7, 9, 49]
  | _ => none
def keep_trammellaw19_BlocksCuts : Nat → Option (List Nat)
  | 9 => some [3, 4, 6, 8]
  | 10 => some [3, 4, 6, 8]
  | 12 => some [3, 4, 6, 8, 9]
  | 15 => some [3, 4, 6, 8]
  | 16 => some [3, 4]
  | 1000008 => some [3, 4, 6, 42]
  | _ => none
def keep_trammellaw19_BlocksReaches : Nat → Option (List Nat)
  | 5 => some [0, 3, 4]
  | 12 => some [0, 3]
  | 16 => some [0, 3, 6, 7]
  | 20 => some [0, 3, 6]
  | 1000015 => some [0, 3, 6, 50]
  | _ => none
def keep_trammellaw19_BlocksTile : Nat → Option (List Nat)
  | 10 => some [0, 3, 8]
  | 11 => some [0, 3, 8]
  | 16 => some [0, 3, 8, 9, 10]
  | 20 => some [0, 3, 8, 9]
  | 24 => some [0, 3, 8, 9, 11, 12, 14]
  | 28 => some [0, 3, 8, 9, 11, 12]
  | 30 => some []
  | 1000009 => some [0, 3, 76]
  | 1000015 => some [0, 3, 8, 9, 106]
  | 1000020 => some [0, 3, 8, 9, 10, 139]
  | 1000023 => some [0, 3, 8, 9, 11, 12, 157]
  | 1000030 => some [0, 3, 8, 195]
  | _ => none
def keep_trammellaw19_BlocksJoin : Nat → Option (List Nat)
  | 7 => some [0, 1, 5, 6, 7, 8, 9, 12]
  | 11 => some [0, 1, 5, 6, 7, 8]
  | 20 => some [0, 5, 7, 14, 16]
  | 25 => some [5, 14]
  | 1000003 => some [0, 1, 25]
  | 1000011 => some [0, 1, 5, 6, 7, 8, 9, 12, 62]
  | 1000013 => some [0, 1, 5, 7, 69]
  | 1000019 => some [0, 5, 7, 14, 102]
  | 1000025 => some [0, 5, 7, 14, 16, 151]
  | _ => none
def keep_trammellaw19_BlocksLeast : Nat → Option (List Nat)
  | 4 => some [0, 3]
  | 8 => some [0]
  | 12 => some [0, 4, 5]
  | 16 => some [0, 4]
  | 19 => some [0, 4, 6]
  | 20 => some [0, 4, 6]
  | 22 => some [0, 4, 6, 7]
  | 26 => some [0, 4]
  | 27 => some [0, 4, 8]
  | 28 => some [0, 4, 8]
  | 31 => some [0, 4, 8, 9, 10]
  | 34 => some [0, 4, 8, 9]
  | 36 => some []
  | 1000008 => some [0, 3, 42]
  | 1000026 => some [0, 4, 6, 7, 125]
  | _ => none
def keep_trammellaw19_BlocksKnown : Nat → Option (List Nat)
  | 2 => some [1]
  | 3 => some [1, 2]
  | 5 => some [1, 2, 3, 4]
  | 10 => some [1, 2]
  | 1000010 => some [1, 2, 3, 4, 75]
  | _ => none
def keep_trammellaw12_works : Nat → Option (List Nat)
  | _ => none
def keep_trammelkit_LentCode : Nat → Option (List Nat)
  | _ => none
def keep_trammelref12_Decode : Nat → Option (List Nat)
  | 10 => some [4, 7, 9, 10]
  | 12 => some [4, 9, 10]
  | 15 => some [4, 9, 10]
  | 1000003 => some [0, 1, 4, 18]
  | _ => none
def keep_ops_Decode : Nat → Option (List Nat)
  | 9 => some [4, 7, 10, 45, 46, 47]
  | 15 => some [4, 7, 10]
  | 18 => some [4, 7, 10, 13, 14, 15]
  | 22 => some [4, 7, 10, 13]
  | 23 => some [4, 7, 10]
  | 1000003 => some [0, 1, 4, 24]
  | _ => none
def keep_trammelref12_All : Nat → Option (List Nat)
  | 4 => some [0, 5, 6, 7]
  | 11 => some [5, 6]
  | _ => none
def keep_ops_All : Nat → Option (List Nat)
  | 4 => some [0, 5, 6, 7]
  | 9 => some [5, 6]
  | _ => none
def keep_trammelkit_SameInstr : Nat → Option (List Nat)
  | 4 => some [2, 3, 5]
  | 8 => some []
  | 1000003 => some [2, 3, 33]
  | _ => none
def keep_trammelkit_SameInstrs : Nat → Option (List Nat)
  | 4 => some [0, 1, 5]
  | 8 => some []
  | _ => none
def keep_trammelkit_SameInts : Nat → Option (List Nat)
  | 4 => some [0, 1, 5]
  | 8 => some []
  | _ => none
def keep_trammelkit_KeptCode : Nat → Option (List Nat)
  | _ => none
def keep_trammelkit_Bulk : Nat → Option (List Nat)
  | 3 => some [1, 2, 5, 6]
  | 4 => some [1, 2, 5, 6]
  | 7 => some [1, 2, 5, 6, 7]
  | 10 => some [1, 2, 5]
  | 11 => some [1, 2, 5, 8]
  | 14 => some [1, 2, 5]
  | 15 => some [1, 2, 5, 9]
  | 19 => some [5]
  | _ => none
def keep_trammelkit_LentInstr : Nat → Option (List Nat)
  | _ => none
def keep_trammelkit_LentModule : Nat → Option (List Nat)
  | 3 => some [1, 2, 3, 4]
  | 11 => some [1, 2, 3]
  | 17 => some [1, 2, 3, 7]
  | 24 => some [1, 2, 3]
  | _ => none
def keep_trammelref12_Takes : Nat → Option (List Nat)
  | 1000005 => some [2, 3, 38]
  | 1000009 => some [2, 3, 65]
  | _ => none
def keep_ops_Takes : Nat → Option (List Nat)
  | 13 => some [7]
  | 1000013 => some [2, 3, 7, 52]
  | _ => none
def keep_trammelkit_KeptInstr : Nat → Option (List Nat)
  | _ => none
def keep_trammelkit_KeptModule : Nat → Option (List Nat)
  | 5 => some [2, 3, 5, 7, 8]
  | 10 => some [2, 3, 7]
  | 11 => some [2, 3, 7, 10]
  | 16 => some []
  | 1000004 => some [2, 3, 5, 7, 60]
  | 1000016 => some [2, 3, 7, 10, 123]
  | _ => none
def keep_trammellaw12_bytes : Nat → Option (List Nat)
  | _ => none
def keep_ops_Encode : Nat → Option (List Nat)
  | 4 => some [1, 4, 5, 6, 21, 22, 23]
  | 9 => some [1, 4, 5, 6, 8, 9, 21, 22, 23]
  | 12 => some [1, 4, 5, 6]
  | 18 => some [5, 6]
  | 1000014 => some [1, 4, 5, 6, 46]
  | 2000016 => some [1, 4, 5, 6, 59]
  | _ => none
def keep_ops_Size : Nat → Option (List Nat)
  | _ => none
def keep_trammellaw12_wrong : Nat → Option (List Nat)
  | _ => none
def keep_trammellaw13_works : Nat → Option (List Nat)
  | _ => none
def keep_image_Encode : Nat → Option (List Nat)
  | _ => none
def keep_trammelkit_SameModule : Nat → Option (List Nat)
  | 4 => some [2, 3, 5]
  | 8 => some [2, 3]
  | 9 => some [2, 3, 6]
  | 13 => some [2, 3]
  | 14 => some [2, 3, 7]
  | 18 => some []
  | 1000003 => some [2, 3, 32]
  | _ => none
def keep_image_Same : Nat → Option (List Nat)
  | _ => none
def keep_trammelkit_Pick : Nat → Option (List Nat)
  | 6 => some [5]
  | _ => none
def keep_trammellaw19_works : Nat → Option (List Nat)
  | _ => none
def keep_trammelref19_Of : Nat → Option (List Nat)
  | 8 => some [0, 4, 5, 7, 8]
  | 12 => some [0, 4, 5, 7]
  | 14 => some [0, 4, 5, 7, 9, 10]
  | 19 => some [0, 4, 5, 7, 9, 10, 11]
  | 21 => some [0, 4, 5, 7, 9, 10, 11]
  | 24 => some [0, 9]
  | _ => none
def keep_trammellaw19_same : Nat → Option (List Nat)
  | 4 => some [0, 1, 5]
  | 8 => some []
  | 1000008 => some [0, 1, 5, 54]
  | _ => none
def keep_trammelkit_LentInts : Nat → Option (List Nat)
  | 4 => some [0, 3, 4]
  | 7 => some [0, 3]
  | _ => none
def keep_blocks_Reach : Nat → Option (List Nat)
  | 3 => some [0, 3, 4]
  | 6 => some [0, 3]
  | 10 => some [0, 3, 5, 6]
  | 16 => some [0, 3, 5, 6, 58, 59, 60]
  | 22 => some [5]
  | _ => none
def keep_trammelref19_Reach : Nat → Option (List Nat)
  | 5 => some [0, 3, 4]
  | 8 => some [0, 3, 4, 5]
  | 9 => some [0, 3, 4, 5]
  | 12 => some [0, 3, 4, 5, 6, 7]
  | 16 => some [0, 3, 4, 5, 6]
  | 18 => some [0, 3, 4, 5, 8]
  | 19 => some [0, 3, 4, 5, 8]
  | 23 => some [0, 3, 4, 5, 8, 9, 10, 11]
  | 27 => some [0, 3, 4, 5, 8, 9, 10]
  | 30 => some [3]
  | 1000029 => some [0, 3, 4, 5, 8, 9, 92]
  | _ => none
def keep_trammelkit_KeptInts : Nat → Option (List Nat)
  | 5 => some [1, 5, 6]
  | 9 => some []
  | _ => none
def keep_trammelkit_SpoilInts : Nat → Option (List Nat)
  | 1 => some [0, 2]
  | 4 => some [0]
  | 6 => some [3, 4]
  | _ => none
def keep_trammellaw19_has : Nat → Option (List Nat)
  | 2 => some [0, 1, 5]
  | 6 => some []
  | _ => none
def keep_trammellaw19_ends : Nat → Option (List Nat)
  | _ => none
def keep_trammellaw19_found : Nat → Option (List Nat)
  | 2 => some [0, 1, 5]
  | 6 => some []
  | _ => none
def keep_trammellaw19_is : Nat → Option (List Nat)
  | _ => none
def keep_ops_Name : Nat → Option (List Nat)
  | _ => none
def keep_trammelref12_parts : Nat → Option (List Nat)
  | 1000009 => some [0, 19]
  | 1000011 => some [0, 48]
  | 1000013 => some [0, 58]
  | 1000015 => some [0, 67]
  | 1000019 => some [0, 82]
  | _ => none
def keep_trammelref12_reader_number : Nat → Option (List Nat)
  | 8 => some [0, 3, 5, 6]
  | 11 => some [0, 3, 5]
  | 14 => some [0, 3, 5]
  | 1000014 => some [0, 3, 5, 77]
  | _ => none
def keep_trammelref12_reader_arms : Nat → Option (List Nat)
  | 7 => some [0, 5, 7]
  | 9 => some [0, 5, 7, 8, 9]
  | 14 => some [8]
  | 1000006 => some [0, 5, 6, 7, 24]
  | _ => none
def keep_trammelref12_leap : Nat → Option (List Nat)
  | _ => none
def keep_ops_layout : Nat → Option (List Nat)
  | 1000023 => some [0, 4, 5, 6, 13, 29]
  | 1000026 => some [0, 4, 5, 6, 13, 44]
  | 1000029 => some [0, 5, 6, 13, 50]
  | 1000035 => some [0, 5, 6, 13, 61]
  | 1000041 => some [0, 6, 81]
  | _ => none
def keep_ops_reader_read : Nat → Option (List Nat)
  | 10 => some [0, 3, 6, 8]
  | 1000010 => some [0, 3, 6, 8, 45]
  | _ => none
def keep_ops_between : Nat → Option (List Nat)
  | _ => none
def keep_ops_fits : Nat → Option (List Nat)
  | _ => none
def keep_trammelref12_is : Nat → Option (List Nat)
  | 6 => some [1, 5]
  | 10 => some [1]
  | 11 => some [1, 3]
  | 1000004 => some [1, 3, 37]
  | 1000010 => some [1, 5, 69]
  | _ => none
def keep_trammelref12_own : Nat → Option (List Nat)
  | _ => none
def keep_trammelref12_made : Nat → Option (List Nat)
  | 9 => some [2, 7, 8, 9, 10, 11]
  | 12 => some [2, 7, 9, 10]
  | 31 => some [2, 3, 7]
  | 1000007 => some [2, 3, 7, 25, 26]
  | 1000016 => some [2, 7, 10, 68]
  | _ => none
def keep_trammelref12_plain : Nat → Option (List Nat)
  | 1000004 => some [1, 4, 5, 6, 7, 10]
  | 1000006 => some [1, 4, 5, 6, 7, 23]
  | 1000012 => some [1, 4, 5, 6, 7, 45]
  | 1000016 => some [1, 4, 5, 6, 7, 61]
  | 1000018 => some [1, 4, 5, 6, 7, 75]
  | 1000020 => some [1, 4, 5, 6, 7, 88]
  | 1000036 => some [1, 4, 7, 161]
  | _ => none
def keep_ops_of : Nat → Option (List Nat)
  | _ => none
def keep_ops_effect_gives : Nat → Option (List Nat)
  | _ => none
def keep_ops_effect_given : Nat → Option (List Nat)
  | _ => none
def keep_slices_Clone_Sint_int : Nat → Option (List Nat)
  | _ => none
def keep_ops_made : Nat → Option (List Nat)
  | 10 => some [4, 5, 7, 8, 42, 43, 44]
  | 14 => some [4, 5, 7, 8]
  | 15 => some [2, 4, 5, 6, 7]
  | 33 => some [2, 3, 4, 5]
  | 1000007 => some [2, 3, 4, 5, 25, 26]
  | 1000017 => some [2, 4, 5, 6, 70]
  | _ => none
def keep_ops_plain : Nat → Option (List Nat)
  | 1000007 => some [1, 2, 3, 7, 8]
  | 1000010 => some [1, 2, 3, 7, 18]
  | 1000015 => some [1, 2, 3, 7, 29]
  | 1000020 => some [1, 2, 3, 7, 40]
  | 1000027 => some [1, 2, 3, 7, 49]
  | 1000044 => some [2, 3, 7, 107]
  | 1000050 => some [2, 3, 117]
  | _ => none
def keep_ops_put : Nat → Option (List Nat)
  | _ => none
def keep_ops_number : Nat → Option (List Nat)
  | _ => none
def keep_ops_arms : Nat → Option (List Nat)
  | 8 => some [0, 3, 6, 7, 8, 33, 34, 35]
  | 15 => some [0, 3, 6, 8]
  | _ => none
def keep_image_structure : Nat → Option (List Nat)
  | 4 => some [1, 24, 25, 26]
  | 13 => some [1]
  | 16 => some [1, 52, 53, 54]
  | 28 => some []
  | 1000003 => some [1, 22]
  | 1000010 => some [1, 4, 24, 25, 26, 30]
  | 1000025 => some [1, 6, 52, 53, 54, 58]
  | _ => none
def keep_image_body : Nat → Option (List Nat)
  | 4 => some [1, 3, 19, 20, 21]
  | 11 => some [1, 3, 19, 20, 21, 43, 44, 45]
  | 16 => some [1, 3, 5, 19, 20, 21]
  | 20 => some [1, 3]
  | 22 => some [1, 3, 76, 77, 78]
  | 26 => some [1, 3]
  | 28 => some [3, 92, 93, 94]
  | 37 => some [3]
  | _ => none
def keep_slices_Concat_Sbyte_byte : Nat → Option (List Nat)
  | 3 => some [0, 3, 9, 10, 11]
  | 9 => some [0, 3]
  | 11 => some [6, 25, 26, 27]
  | 15 => some [6]
  | _ => none
def keep_wire_Fixed : Nat → Option (List Nat)
  | 5 => some [0, 5, 15, 16]
  | 9 => some [5]
  | 1000003 => some [0, 1, 12]
  | _ => none
def keep_wire_Sum : Nat → Option (List Nat)
  | 3 => some [3, 6, 7, 8]
  | 7 => some [3, 6, 7, 8, 16]
  | 11 => some [3]
  | _ => none
def keep_trammelkit_SameType : Nat → Option (List Nat)
  | _ => none
def keep_trammelkit_SameRoutine : Nat → Option (List Nat)
  | _ => none
def keep_image_Same_1 : Nat → Option (List Nat)
  | _ => none
def keep_slices_Equal_Sapi_Field_api_Field : Nat → Option (List Nat)
  | 4 => some [0, 1, 12, 13]
  | 9 => some []
  | _ => none
def keep_image_Same_2 : Nat → Option (List Nat)
  | _ => none
def keep_slices_Equal_Sint_int : Nat → Option (List Nat)
  | 4 => some [0, 1, 12, 13]
  | 9 => some []
  | _ => none
def keep_bytes_Equal : Nat → Option (List Nat)
  | _ => none
def keep_slices_EqualFunc_Sapi_Type_Sapi_Type_api_Type_api_Type : Nat → Option (List Nat)
  | 4 => some [1, 2, 15, 16, 17]
  | 10 => some []
  | _ => none
def keep_slices_Equal_Sstring_string : Nat → Option (List Nat)
  | 4 => some [0, 1, 12, 13]
  | 9 => some []
  | _ => none
def keep_slices_EqualFunc_Sapi_Routine_Sapi_Routine_api_Routine_api_Routine : Nat → Option (List Nat)
  | 4 => some [1, 2, 15, 16, 17]
  | 10 => some []
  | _ => none
def keep_image_outside : Nat → Option (List Nat)
  | 2 => some [0, 13, 14, 15]
  | 9 => some [0]
  | 1000012 => some [0, 7, 50]
  | _ => none
def keep_image_Load_1 : Nat → Option (List Nat)
  | 5 => some [0, 1, 2, 4]
  | _ => none
def keep_image_reader_module : Nat → Option (List Nat)
  | 2 => some [0, 2, 5, 6]
  | 5 => some [0, 2]
  | 6 => some [0, 2, 17, 18]
  | 9 => some [0, 2]
  | 10 => some [0, 2, 29, 30]
  | 20 => some [0, 2]
  | 22 => some [2]
  | _ => none
def keep_trammelref19_heads : Nat → Option (List Nat)
  | 3 => some [0, 1, 2, 7, 8]
  | 4 => some [0, 1, 2, 7, 8]
  | 10 => some [0, 1, 2, 7, 8, 9]
  | 12 => some [0, 1, 2, 7, 8, 10, 11]
  | 15 => some [7]
  | _ => none
def keep_trammelref19_Has : Nat → Option (List Nat)
  | 2 => some [0, 1, 5]
  | 6 => some []
  | _ => none
def keep_trammelref19_Leads : Nat → Option (List Nat)
  | 13 => some [2, 5, 6]
  | 16 => some [5]
  | 20 => some [1]
  | 1000008 => some [1, 2, 5, 8, 14]
  | 1000020 => some [1, 47]
  | _ => none
def keep_blocks_leads : Nat → Option (List Nat)
  | 14 => some [4, 33, 34, 35]
  | 18 => some [4]
  | 1000006 => some [1, 2, 9, 12]
  | 1000011 => some [1, 2, 9, 20]
  | _ => none
def keep_slices_Sort_Sint_int : Nat → Option (List Nat)
  | _ => none
def keep_slices_Contains_Sint_int : Nat → Option (List Nat)
  | _ => none
def keep_slices_Sorted_int : Nat → Option (List Nat)
  | _ => none
def keep_maps_Keys_map_int_int_int_int : Nat → Option (List Nat)
  | _ => none
def keep_trammelref19_With : Nat → Option (List Nat)
  | 2 => some [0, 1, 5]
  | 4 => some [0, 1, 5]
  | 8 => some [0, 1, 5, 6]
  | 11 => some [0, 1, 5]
  | 1000006 => some [0, 1, 5, 32]
  | _ => none
def keep_trammelref12_place : Nat → Option (List Nat)
  | _ => none
def keep_trammelref12_width : Nat → Option (List Nat)
  | _ => none
def keep_trammelref12_within : Nat → Option (List Nat)
  | _ => none
def keep_trammelref02_Bits : Nat → Option (List Nat)
  | _ => none
def keep_wire_Wide : Nat → Option (List Nat)
  | 10 => some [0, 1, 2, 9, 29, 30]
  | 14 => some [1, 2, 9]
  | 1000006 => some [0, 1, 2, 11]
  | _ => none
def keep_ops_between_1 : Nat → Option (List Nat)
  | _ => none
def keep_ops_fits_1 : Nat → Option (List Nat)
  | _ => none
def keep_word_Fits : Nat → Option (List Nat)
  | _ => none
def keep_trammelref02_Fits : Nat → Option (List Nat)
  | _ => none
def keep_trammelref12_typed : Nat → Option (List Nat)
  | 1000004 => some [2, 3, 4, 8, 10, 22]
  | _ => none
def keep_ops_typed : Nat → Option (List Nat)
  | 1000003 => some [1, 2, 3, 6, 18]
  | _ => none
def keep_slices_ContainsFunc_Sapi_Field_api_Field : Nat → Option (List Nat)
  | _ => none
def keep_image_structure_1 : Nat → Option (List Nat)
  | _ => none
def keep_image_mayType : Nat → Option (List Nat)
  | 2 => some [2, 3, 5]
  | _ => none
def keep_slices_ContainsFunc_Sstring_string : Nat → Option (List Nat)
  | _ => none
def keep_image_structure_2 : Nat → Option (List Nat)
  | _ => none
def keep_image_mayFunc : Nat → Option (List Nat)
  | 1000004 => some [2, 3, 32]
  | _ => none
def keep_image_writer_number : Nat → Option (List Nat)
  | _ => none
def keep_image_writer_put : Nat → Option (List Nat)
  | 2 => some [0, 1]
  | _ => none
def keep_image_writer_text : Nat → Option (List Nat)
  | 3 => some [0, 1]
  | _ => none
def keep_image_writer_numbers : Nat → Option (List Nat)
  | 2 => some [0, 10, 11, 12]
  | _ => none
def keep_slices_Grow_Sbyte_byte : Nat → Option (List Nat)
  | 3 => some [0, 1]
  | 6 => some [0]
  | _ => none
def keep_trammelkit_SameFields : Nat → Option (List Nat)
  | 4 => some [0, 1, 5]
  | 8 => some []
  | _ => none
def keep_image_reader_count : Nat → Option (List Nat)
  | 5 => some [6]
  | _ => none
def keep_image_reader_one : Nat → Option (List Nat)
  | 8 => some [0, 2, 25, 26]
  | 17 => some [2]
  | _ => none
def keep_image_reader_text : Nat → Option (List Nat)
  | _ => none
def keep_image_reader_numbers : Nat → Option (List Nat)
  | 2 => some [0, 4, 7, 8]
  | 5 => some [4]
  | _ => none
def keep_image_reader_number : Nat → Option (List Nat)
  | 8 => some [0, 3, 4]
  | _ => none
def keep_bytes_Clone : Nat → Option (List Nat)
  | _ => none
def keep_image_reader_octets : Nat → Option (List Nat)
  | 3 => some [0, 1]
  | _ => none
def keep_trammelref19_Ends : Nat → Option (List Nat)
  | _ => none
def keep_slices_Compact_Sint_int : Nat → Option (List Nat)
  | 4 => some [0, 3]
  | 5 => some [0, 3]
  | 9 => some [0, 3, 4, 5]
  | 14 => some [0, 3]
  | 16 => some [0]
  | _ => none
def keep_slices_pdqsortOrdered_int : Nat → Option (List Nat)
  | 2 => some [0, 1, 2, 3, 8, 9]
  | 10 => some [0, 1, 2, 3, 8, 9, 10]
  | 15 => some [0, 1, 2, 3, 8, 9, 10, 11, 12]
  | 17 => some [0, 1, 2, 3, 8, 9, 10, 11]
  | 1000017 => some [0, 1, 2, 3, 8, 9, 10, 11, 68]
  | 1000019 => some [0, 1, 2, 3, 8, 9, 10, 11, 87]
  | _ => none
def keep_math_bits_Len : Nat → Option (List Nat)
  | _ => none
def keep_slices_Index_Sint_int : Nat → Option (List Nat)
  | 2 => some [0, 1, 7, 8]
  | 7 => some []
  | _ => none
def keep_slices_Collect_int : Nat → Option (List Nat)
  | _ => none
def keep_word_Bits : Nat → Option (List Nat)
  | _ => none
def keep_word_Wrap : Nat → Option (List Nat)
  | _ => none
def keep_trammelref02_Wrap : Nat → Option (List Nat)
  | 4 => some [1, 5, 6, 7]
  | 7 => some [1, 5, 6]
  | 8 => some [1, 5, 6, 8]
  | 11 => some [6]
  | _ => none
def keep_slices_Contains_Suint8_uint8 : Nat → Option (List Nat)
  | _ => none
def keep_slices_IndexFunc_Sapi_Field_api_Field : Nat → Option (List Nat)
  | 2 => some [0, 1, 7, 8]
  | 7 => some []
  | _ => none
def keep_image_there : Nat → Option (List Nat)
  | _ => none
def keep_image_mayType_1 : Nat → Option (List Nat)
  | _ => none
def keep_slices_IndexFunc_Sstring_string : Nat → Option (List Nat)
  | 2 => some [0, 1, 7, 8]
  | 7 => some []
  | _ => none
def keep_image_mayFunc_1 : Nat → Option (List Nat)
  | _ => none
def keep_slices_ContainsFunc_Sint_int : Nat → Option (List Nat)
  | _ => none
def keep_slices_ContainsFunc_Sapi_Instr_api_Instr : Nat → Option (List Nat)
  | _ => none
def keep_image_mayFunc_2 : Nat → Option (List Nat)
  | _ => none
def keep_wire_Put : Nat → Option (List Nat)
  | 2 => some [0, 3]
  | 5 => some [0, 3]
  | _ => none
def keep_wire_Get : Nat → Option (List Nat)
  | 5 => some [0, 1, 7, 21, 22]
  | 14 => some []
  | 1000003 => some [0, 1, 17]
  | 1000010 => some [0, 1, 7, 8, 9, 21, 22, 44]
  | _ => none
def keep_slices_insertionSortOrdered_int : Nat → Option (List Nat)
  | 1 => some [0, 1, 2, 6]
  | 2 => some [0, 1, 2, 6]
  | 4 => some [0, 1, 2, 6, 7]
  | _ => none
def keep_slices_heapSortOrdered_int : Nat → Option (List Nat)
  | 4 => some [0, 6, 7, 8, 9]
  | 7 => some [0, 6, 7, 8]
  | 8 => some [0, 6, 7, 10]
  | _ => none
def keep_slices_breakPatternsOrdered_int : Nat → Option (List Nat)
  | 5 => some [0, 1, 6, 7, 8, 9]
  | 10 => some [0, 1, 6, 7, 8, 9, 10]
  | _ => none
def keep_slices_choosePivotOrdered_int : Nat → Option (List Nat)
  | 11 => some [0, 9, 10, 11, 12]
  | 12 => some [9, 11]
  | _ => none
def keep_slices_reverseRangeOrdered_int : Nat → Option (List Nat)
  | 2 => some [0, 6, 7]
  | _ => none
def keep_slices_partialInsertionSortOrdered_int : Nat → Option (List Nat)
  | 3 => some [0, 1, 2, 7, 8]
  | 4 => some [0, 1, 2, 7, 8]
  | 5 => some [0, 1, 2, 7, 8]
  | 7 => some [0, 1, 2, 7, 8]
  | 14 => some [0, 1, 2, 7, 8, 9]
  | 18 => some [0, 1, 2, 7, 8]
  | 20 => some [0, 1, 2, 7, 8, 10]
  | 24 => some []
  | _ => none
def keep_cmp_Less_int : Nat → Option (List Nat)
  | _ => none
def keep_slices_partitionEqualOrdered_int : Nat → Option (List Nat)
  | 3 => some [0, 1, 9, 10]
  | 5 => some [0, 1, 9, 10]
  | 7 => some [0, 1, 9, 10]
  | 11 => some [9]
  | _ => none
def keep_slices_partitionOrdered_int : Nat → Option (List Nat)
  | 3 => some [0, 1, 10, 11]
  | 5 => some [0, 1, 10, 11]
  | 7 => some [0, 1, 10, 11]
  | 13 => some [0, 1, 10, 11]
  | 15 => some [0, 1, 10, 11]
  | 17 => some [0, 1, 10, 11]
  | 21 => some [0, 1, 11]
  | _ => none
def keep_math_bits_Len32 : Nat → Option (List Nat)
  | 4 => some [0, 2]
  | 7 => some [0, 2]
  | _ => none
def keep_math_bits_Len64 : Nat → Option (List Nat)
  | 4 => some [0, 2]
  | 7 => some [0, 2]
  | 10 => some [0, 2]
  | _ => none
def keep_slices_Index_Suint8_uint8 : Nat → Option (List Nat)
  | 2 => some [0, 1, 7, 8]
  | 7 => some []
  | _ => none
def keep_slices_IndexFunc_Sint_int : Nat → Option (List Nat)
  | 2 => some [0, 1, 7, 8]
  | 7 => some []
  | _ => none
def keep_slices_IndexFunc_Sapi_Instr_api_Instr : Nat → Option (List Nat)
  | 2 => some [0, 1, 7, 8]
  | 7 => some []
  | _ => none
def keep_slices_siftDownOrdered_int : Nat → Option (List Nat)
  | 1 => some [0, 2, 3, 8]
  | 5 => some [0, 2, 3, 8, 9]
  | 1000005 => some [0, 2, 3, 8, 9, 36]
  | _ => none
def keep_slices_nextPowerOfTwo : Nat → Option (List Nat)
  | _ => none
def keep_slices_xorshift_Next : Nat → Option (List Nat)
  | _ => none
def keep_slices_medianAdjacentOrdered_int : Nat → Option (List Nat)
  | _ => none
def keep_slices_medianOrdered_int : Nat → Option (List Nat)
  | _ => none
def keep_cmp_isNaN_int : Nat → Option (List Nat)
  | _ => none
def keep_slices_order2Ordered_int : Nat → Option (List Nat)
  | _ => none
noncomputable def fnsL : List (Nat × Func) := [(2, Try.f2), (3, Try.f3), (4, Try.f4), (5, Try.f5), (6, Try.f6), (7, Try.f7), (8, Try.f8), (9, Try.f9), (10, Try.f10), (11, Try.f11), (12, Try.f12), (13, Try.f13), (14, Try.f14), (15, Try.f15), (16, Try.f16), (17, Try.f17), (18, Try.f18), (19, Try.f19), (20, Try.f20), (21, Try.f21), (22, Try.f22), (23, Try.f23), (24, Try.f24), (25, Try.f25), (26, Try.f26), (27, Try.f27), (28, Try.f28), (29, Try.f29), (30, Try.f30), (31, Try.f31), (32, Try.f32), (33, Try.f33), (34, Try.f34), (35, Try.f35), (36, Try.f36), (37, Try.f37), (38, Try.f38), (39, Try.f39), (40, Try.f40), (42, Try.f42), (43, Try.f43), (44, Try.f44), (46, Try.f46), (47, Try.f47), (48, Try.f48), (49, Try.f49), (50, Try.f50), (51, Try.f51), (52, Try.f52), (53, Try.f53), (54, Try.f54), (55, Try.f55), (56, Try.f56), (57, Try.f57), (58, Try.f58), (59, Try.f59), (60, Try.f60), (61, Try.f61), (62, Try.f62), (63, Try.f63), (64, Try.f64), (65, Try.f65), (66, Try.f66), (67, Try.f67), (68, Try.f68), (69, Try.f69), (70, Try.f70), (71, Try.f71), (72, Try.f72), (73, Try.f73), (74, Try.f74), (75, Try.f75), (76, Try.f76), (77, Try.f77), (78, Try.f78), (79, Try.f79), (80, Try.f80), (81, Try.f81), (82, Try.f82), (83, Try.f83), (84, Try.f84), (85, Try.f85), (86, Try.f86), (87, Try.f87), (88, Try.f88), (89, Try.f89), (90, Try.f90), (91, Try.f91), (92, Try.f92), (93, Try.f93), (94, Try.f94), (95, Try.f95), (96, Try.f96), (97, Try.f97), (98, Try.f98), (99, Try.f99), (100, Try.f100), (101, Try.f101), (102, Try.f102), (103, Try.f103), (104, Try.f104), (105, Try.f105), (106, Try.f106), (107, Try.f107), (108, Try.f108), (109, Try.f109), (110, Try.f110), (111, Try.f111), (112, Try.f112), (113, Try.f113), (114, Try.f114), (115, Try.f115), (116, Try.f116), (117, Try.f117), (118, Try.f118), (119, Try.f119), (120, Try.f120), (121, Try.f121), (122, Try.f122), (123, Try.f123), (124, Try.f124), (125, Try.f125), (126, Try.f126), (127, Try.f127), (128, Try.f128), (129, Try.f129), (130, Try.f130), (131, Try.f131), (132, Try.f132), (133, Try.f133), (134, Try.f134), (135, Try.f135), (136, Try.f136), (137, Try.f137), (138, Try.f138), (139, Try.f139), (140, Try.f140), (142, Try.f142), (143, Try.f143), (144, Try.f144), (145, Try.f145), (146, Try.f146), (147, Try.f147), (148, Try.f148), (149, Try.f149), (150, Try.f150), (151, Try.f151), (152, Try.f152), (153, Try.f153), (154, Try.f154), (155, Try.f155), (156, Try.f156), (157, Try.f157), (158, Try.f158), (159, Try.f159), (160, Try.f160), (161, Try.f161), (162, Try.f162), (163, Try.f163), (164, Try.f164), (165, Try.f165), (166, Try.f166), (168, Try.f168), (169, Try.f169), (170, Try.f170), (171, Try.f171), (172, Try.f172), (173, Try.f173), (174, Try.f174), (175, Try.f175), (176, Try.f176), (177, Try.f177)]
def keepsL : List (Nat × (Nat → Option (List Nat))) := [(2, keep_gosem_cut_init), (3, keep_trammellaw12_OpsReads), (4, keep_trammellaw12_OpsTakes), (5, keep_trammellaw12_OpsKnown), (6, keep_trammellaw13_ImageUnlike), (7, keep_trammellaw13_ImageSame), (8, keep_trammellaw13_ImageOnce), (9, keep_trammellaw13_ImageSpoilt), (10, keep_trammellaw19_BlocksCuts), (11, keep_trammellaw19_BlocksReaches), (12, keep_trammellaw19_BlocksTile), (13, keep_trammellaw19_BlocksJoin), (14, keep_trammellaw19_BlocksLeast), (15, keep_trammellaw19_BlocksKnown), (16, keep_trammellaw12_works), (17, keep_trammelkit_LentCode), (18, keep_trammelref12_Decode), (19, keep_ops_Decode), (20, keep_trammelref12_All), (21, keep_ops_All), (22, keep_trammelkit_SameInstr), (23, keep_trammelkit_SameInstrs), (24, keep_trammelkit_SameInts), (25, keep_trammelkit_KeptCode), (26, keep_trammelkit_Bulk), (27, keep_trammelkit_LentInstr), (28, keep_trammelkit_LentModule), (29, keep_trammelref12_Takes), (30, keep_ops_Takes), (31, keep_trammelkit_KeptInstr), (32, keep_trammelkit_KeptModule), (33, keep_trammellaw12_bytes), (34, keep_ops_Encode), (35, keep_ops_Size), (36, keep_trammellaw12_wrong), (37, keep_trammellaw13_works), (38, keep_image_Encode), (39, keep_trammelkit_SameModule), (40, keep_image_Same), (42, keep_trammelkit_Pick), (43, keep_trammellaw19_works), (44, keep_trammelref19_Of), (46, keep_trammellaw19_same), (47, keep_trammelkit_LentInts), (48, keep_blocks_Reach), (49, keep_trammelref19_Reach), (50, keep_trammelkit_KeptInts), (51, keep_trammelkit_SpoilInts), (52, keep_trammellaw19_has), (53, keep_trammellaw19_ends), (54, keep_trammellaw19_found), (55, keep_trammellaw19_is), (56, keep_ops_Name), (57, keep_trammelref12_parts), (58, keep_trammelref12_reader_number), (59, keep_trammelref12_reader_arms), (60, keep_trammelref12_leap), (61, keep_ops_layout), (62, keep_ops_reader_read), (63, keep_ops_between), (64, keep_ops_fits), (65, keep_trammelref12_is), (66, keep_trammelref12_own), (67, keep_trammelref12_made), (68, keep_trammelref12_plain), (69, keep_ops_of), (70, keep_ops_effect_gives), (71, keep_ops_effect_given), (72, keep_slices_Clone_Sint_int), (73, keep_ops_made), (74, keep_ops_plain), (75, keep_ops_put), (76, keep_ops_number), (77, keep_ops_arms), (78, keep_image_structure), (79, keep_image_body), (80, keep_slices_Concat_Sbyte_byte), (81, keep_wire_Fixed), (82, keep_wire_Sum), (83, keep_trammelkit_SameType), (84, keep_trammelkit_SameRoutine), (85, keep_image_Same_1), (86, keep_slices_Equal_Sapi_Field_api_Field), (87, keep_image_Same_2), (88, keep_slices_Equal_Sint_int), (89, keep_bytes_Equal), (90, keep_slices_EqualFunc_Sapi_Type_Sapi_Type_api_Type_api_Type), (91, keep_slices_Equal_Sstring_string), (92, keep_slices_EqualFunc_Sapi_Routine_Sapi_Routine_api_Routine_api_Routine), (93, keep_image_outside), (94, keep_image_Load_1), (95, keep_image_reader_module), (96, keep_trammelref19_heads), (97, keep_trammelref19_Has), (98, keep_trammelref19_Leads), (99, keep_blocks_leads), (100, keep_slices_Sort_Sint_int), (101, keep_slices_Contains_Sint_int), (102, keep_slices_Sorted_int), (103, keep_maps_Keys_map_int_int_int_int), (104, keep_trammelref19_With), (105, keep_trammelref12_place), (106, keep_trammelref12_width), (107, keep_trammelref12_within), (108, keep_trammelref02_Bits), (109, keep_wire_Wide), (110, keep_ops_between_1), (111, keep_ops_fits_1), (112, keep_word_Fits), (113, keep_trammelref02_Fits), (114, keep_trammelref12_typed), (115, keep_ops_typed), (116, keep_slices_ContainsFunc_Sapi_Field_api_Field), (117, keep_image_structure_1), (118, keep_image_mayType), (119, keep_slices_ContainsFunc_Sstring_string), (120, keep_image_structure_2), (121, keep_image_mayFunc), (122, keep_image_writer_number), (123, keep_image_writer_put), (124, keep_image_writer_text), (125, keep_image_writer_numbers), (126, keep_slices_Grow_Sbyte_byte), (127, keep_trammelkit_SameFields), (128, keep_image_reader_count), (129, keep_image_reader_one), (130, keep_image_reader_text), (131, keep_image_reader_numbers), (132, keep_image_reader_number), (133, keep_bytes_Clone), (134, keep_image_reader_octets), (135, keep_trammelref19_Ends), (136, keep_slices_Compact_Sint_int), (137, keep_slices_pdqsortOrdered_int), (138, keep_math_bits_Len), (139, keep_slices_Index_Sint_int), (140, keep_slices_Collect_int), (142, keep_word_Bits), (143, keep_word_Wrap), (144, keep_trammelref02_Wrap), (145, keep_slices_Contains_Suint8_uint8), (146, keep_slices_IndexFunc_Sapi_Field_api_Field), (147, keep_image_there), (148, keep_image_mayType_1), (149, keep_slices_IndexFunc_Sstring_string), (150, keep_image_mayFunc_1), (151, keep_slices_ContainsFunc_Sint_int), (152, keep_slices_ContainsFunc_Sapi_Instr_api_Instr), (153, keep_image_mayFunc_2), (154, keep_wire_Put), (155, keep_wire_Get), (156, keep_slices_insertionSortOrdered_int), (157, keep_slices_heapSortOrdered_int), (158, keep_slices_breakPatternsOrdered_int), (159, keep_slices_choosePivotOrdered_int), (160, keep_slices_reverseRangeOrdered_int), (161, keep_slices_partialInsertionSortOrdered_int), (162, keep_cmp_Less_int), (163, keep_slices_partitionEqualOrdered_int), (164, keep_slices_partitionOrdered_int), (165, keep_math_bits_Len32), (166, keep_math_bits_Len64), (168, keep_slices_Index_Suint8_uint8), (169, keep_slices_IndexFunc_Sint_int), (170, keep_slices_IndexFunc_Sapi_Instr_api_Instr), (171, keep_slices_siftDownOrdered_int), (172, keep_slices_nextPowerOfTwo), (173, keep_slices_xorshift_Next), (174, keep_slices_medianAdjacentOrdered_int), (175, keep_slices_medianOrdered_int), (176, keep_cmp_isNaN_int), (177, keep_slices_order2Ordered_int)]
end Go.Proofs.Ytmdffenlehcekaa
