/- Part 3 of a proof: what the functions yield. It stands by itself; no condition. -/
import Derived.Test.YtgnpljdhhliemaaE0
/- The small code of the functions. -/
namespace Go.Ev
set_option linter.unusedVariables false
set_option maxRecDepth 100000
def id_main_main : Nat := 0
def id_gosem_cut : Nat := 1
def id_gosem_cut_init : Nat := 2
def id_interpreterlaw17_RefragFour : Nat := 3
def id_interpreterlaw17_RefragSix : Nat := 4
def id_interpreterlaw17_RefragAgain : Nat := 5
def id_interpreterlaw17_RefragKnown : Nat := 6
def id_interpreterlaw17_RefragJoins : Nat := 7
def id_interpreterlaw17_RefragJoinsSix : Nat := 8
def id_interpreterlaw17_Great4 : Nat := 9
def id_interpreterlaw17_wakes : Nat := 10
def id_refrag_Cut4 : Nat := 11
def id_ip4_Bytes : Nat := 12
def id_refrag_Len4 : Nat := 13
def id_interpreterref17_Cut4 : Nat := 14
def id_interpreterref17_Head4 : Nat := 15
def id_interpreterlaw17_Great6 : Nat := 16
def id_refrag_Cut6 : Nat := 17
def id_ip6_Bytes : Nat := 18
def id_refrag_Len6 : Nat := 19
def id_interpreterref17_Cut6 : Nat := 20
def id_interpreterref17_Head6 : Nat := 21
def id_interpreterlaw17_same6 : Nat := 22
def id_interpreterlaw17_four : Nat := 23
def id_interpreterlaw17_six : Nat := 24
def id_frag_New : Nat := 25
def id_ip4_Parse : Nat := 26
def id_frag_Store_Put : Nat := 27
def id_ip6_Parse : Nat := 28
def id_refrag_pieces : Nat := 29
def id_ip4_why : Nat := 30
def id_ip4_fault : Nat := 31
def id_ip4_big : Nat := 32
def id_sum_Of : Nat := 33
def id_interpreterref17_Room : Nat := 34
def id_slices_Clone_api_Ext_api_Ext : Nat := 35
def id_ip6_why : Nat := 36
def id_ip6_fault : Nat := 37
def id_ip6_big : Nat := 38
def id_sum_Right : Nat := 39
def id_ip4_Parse_1 : Nat := 40
def id_frag_Store_none : Nat := 41
def id_frag_Right : Nat := 42
def id_slices_ContainsFunc_frag_Piece_frag_Piece : Nat := 43
def id_frag_Piece_same : Nat := 44
def id_frag_datagram_fits : Nat := 45
def id_frag_Store_cut : Nat := 46
def id_frag_Store_takes : Nat := 47
def id_frag_datagram_whole : Nat := 48
def id_num_New : Nat := 49
def id_num_Reader_U32 : Nat := 50
def id_ip6_Chain : Nat := 51
def id_ip6_pieced : Nat := 52
def id_ip4_byteful : Nat := 53
def id_num_Big : Nat := 54
def id_sum_fold : Nat := 55
def id_sum_add : Nat := 56
def id_ip6_within : Nat := 57
def id_ip6_kinds : Nat := 58
def id_ip6_formed : Nat := 59
def id_ip6_size : Nat := 60
def id_slices_IndexFunc_frag_Piece_frag_Piece : Nat := 61
def id_frag_Piece_to : Nat := 62
def id_frag_datagram_fits_1 : Nat := 63
def id_frag_datagram_head : Nat := 64
def id_slices_SortStableFunc_frag_Piece_frag_Piece : Nat := 65
def id_frag_datagram_whole_1 : Nat := 66
def id_cmp_Or_int : Nat := 67
def id_cmp_Compare_int : Nat := 68
def id_num_Reader_number : Nat := 69
def id_ip6_extends : Nat := 70
def id_slices_stableCmpFunc_frag_Piece : Nat := 71
def id_cmp_isNaN_int : Nat := 72
def id_num_Reader_Text : Nat := 73
def id_slices_insertionSortCmpFunc_frag_Piece : Nat := 74
def id_slices_symMergeCmpFunc_frag_Piece : Nat := 75
def id_slices_rotateCmpFunc_frag_Piece : Nat := 76
def id_slices_swapRangeCmpFunc_frag_Piece : Nat := 77
def id_runtime_boundsError_Error : Nat := 78
def id_runtime_boundsError_RuntimeError : Nat := 79
def id_runtime_errorString_Error : Nat := 80
def id_runtime_errorString_RuntimeError : Nat := 81
def id_runtime_plainError_Error : Nat := 82
def id_runtime_plainError_RuntimeError : Nat := 83
def id_runtime_errorAddressString_Error : Nat := 84
def id_runtime_errorAddressString_RuntimeError : Nat := 85
def id_runtime_TypeAssertionError_Error : Nat := 86
def id_runtime_TypeAssertionError_RuntimeError : Nat := 87
def id_runtime_PanicNilError_Error : Nat := 88
def id_runtime_PanicNilError_RuntimeError : Nat := 89
def id_internal_abi_Type_Align : Nat := 90
def id_internal_runtime_maps_unhashableTypeError_Error : Nat := 91
def id_internal_runtime_maps_unhashableTypeError_RuntimeError : Nat := 92
def id_frag_Store_Len : Nat := 93
def id_num_Reader_At : Nat := 94
def id_num_Fault_Error : Nat := 95
def id_internal_abi_Kind_String : Nat := 96

def ty_ : Nat := 0
def ty_func : Nat := 1
def ty_int64 : Nat := 2
def ty_int : Nat := 3
def ty_bool : Nat := 4
def ty_uint8 : Nat := 5
def ty_abi_BoundsErrorCode : Nat := 6
def ty_struct_x_int64_y_int_signed_bool_code_abi_BoundsErrorCode : Nat := 7
def ty_runtime_boundsError : Nat := 8
def ty_string : Nat := 9
def ty_runtime_errorString : Nat := 10
def ty_runtime_plainError : Nat := 11
def ty_uintptr : Nat := 12
def ty_struct_msg_string_addr_uintptr : Nat := 13
def ty_runtime_errorAddressString : Nat := 14
def ty_ptr_runtime_TypeAssertionError : Nat := 15
def ty_ptr_runtime_PanicNilError : Nat := 16
def ty_ptr_abi_Type : Nat := 17
def ty_struct_typ_ptr_abi_Type : Nat := 18
def ty_maps_unhashableTypeError : Nat := 19
def ty_interface : Nat := 20
def ty_int32 : Nat := 21
def ty_4_uint8 : Nat := 22
def ty_api_V4 : Nat := 23
def ty_struct_Tos_int_Id_int_Ttl_int_Proto_int_At_int_DF_bool_More_bool_From_api_V4_To_api_V4_Options_string_Data_string : Nat := 24
def ty_api_Ip4 : Nat := 25
def ty_func_api_Ip4_bool : Nat := 26
def ty_func_bool : Nat := 27
def ty_slice_api_Ip4 : Nat := 28
def ty_api_Errno : Nat := 29
def ty_slice_api_Ip4_api_Errno : Nat := 30
def ty_func_api_Ip4_int_slice_api_Ip4_api_Errno : Nat := 31
def ty_interface_Error_string : Nat := 32
def ty_error : Nat := 33
def ty_string_error : Nat := 34
def ty_func_api_Ip4_string_error : Nat := 35
def ty_func_api_Ip4_int : Nat := 36
def ty_func_api_Ip4_int_bool : Nat := 37
def ty_16_uint8 : Nat := 38
def ty_api_V6 : Nat := 39
def ty_slice_api_Ext : Nat := 40
def ty_uint32 : Nat := 41
def ty_struct_Class_int_Flow_int_Hop_int_From_api_V6_To_api_V6_Exts_slice_api_Ext_Frag_bool_Id_uint32_At_int_More_bool_Proto_int_Data_string : Nat := 42
def ty_api_Ip6 : Nat := 43
def ty_func_api_Ip6_bool : Nat := 44
def ty_slice_api_Ip6 : Nat := 45
def ty_slice_api_Ip6_api_Errno : Nat := 46
def ty_func_api_Ip6_int_uint32_slice_api_Ip6_api_Errno : Nat := 47
def ty_func_api_Ip6_string_error : Nat := 48
def ty_func_api_Ip6_int : Nat := 49
def ty_func_api_Ip6_api_Ip6_bool : Nat := 50
def ty_func_api_Ip6_int_uint32_bool : Nat := 51
def ty_func_api_Ip4_int_int_bool : Nat := 52
def ty_func_int_api_Ip4 : Nat := 53
def ty_slice_int : Nat := 54
def ty_func_int_api_Ip6 : Nat := 55
def ty_slice_uint8 : Nat := 56
def ty_struct_Kind_int_Body_string : Nat := 57
def ty_api_Ext : Nat := 58
def ty_ptr_frag_Store : Nat := 59
def ty_ptr_frag_Store_api_Errno : Nat := 60
def ty_func_int_int_ptr_frag_Store_api_Errno : Nat := 61
def ty_api_Ip4_error : Nat := 62
def ty_func_string_api_Ip4_error : Nat := 63
def ty_struct_Key_string_Head_string_Data_string_Pieces_int : Nat := 64
def ty_frag_Whole : Nat := 65
def ty_frag_Whole_bool_api_Errno : Nat := 66
def ty_func_frag_Piece_int_frag_Whole_bool_api_Errno : Nat := 67
def ty_struct_Key_string_Source_string_At_int_More_bool_Data_string_Head_string : Nat := 68
def ty_frag_Piece : Nat := 69
def ty_api_Ip6_error : Nat := 70
def ty_func_string_api_Ip6_error : Nat := 71
def ty_func_api_Ip6_int_uint32_int_bool : Nat := 72
def ty_slice_refrag_piece : Nat := 73
def ty_func_int_int_slice_refrag_piece : Nat := 74
def ty_struct_from_int_to_int : Nat := 75
def ty_refrag_piece : Nat := 76
def ty_func_api_Ip4_api_Errno : Nat := 77
def ty_func_api_Errno_error : Nat := 78
def ty_func_int_int_string : Nat := 79
def ty_func_string_int : Nat := 80
def ty_func_int_int_int : Nat := 81
def ty_func_slice_api_Ext_slice_api_Ext : Nat := 82
def ty_func_api_Ip6_api_Errno : Nat := 83
def ty_uint : Nat := 84
def ty_map_string_ptr_frag_datagram : Nat := 85
def ty_map_string_int : Nat := 86
def ty_struct_max_int_source_int_last_int_n_int_m_map_string_ptr_frag_datagram_of_map_string_int : Nat := 87
def ty_frag_Store : Nat := 88
def ty_func_string_bool : Nat := 89
def ty_func_int_int : Nat := 90
def ty_func_frag_Piece_bool : Nat := 91
def ty_ptr_frag_datagram : Nat := 92
def ty_ptr_frag_datagram_bool : Nat := 93
def ty_func_slice_frag_Piece_func_frag_Piece_bool_bool : Nat := 94
def ty_slice_frag_Piece : Nat := 95
def ty_struct_id_int_due_int_end_int_l_slice_frag_Piece : Nat := 96
def ty_frag_datagram : Nat := 97
def ty_func_string : Nat := 98
def ty_func_frag_Piece_int : Nat := 99
def ty_frag_Whole_bool : Nat := 100
def ty_func_string_frag_Whole_bool : Nat := 101
def ty_int_error : Nat := 102
def ty_ptr_num_Reader : Nat := 103
def ty_func_string_ptr_num_Reader : Nat := 104
def ty_func_int_error : Nat := 105
def ty_slice_api_Ext_int_string_error : Nat := 106
def ty_func_int_string_slice_api_Ext_int_string_error : Nat := 107
def ty_func_int_bool : Nat := 108
def ty_ptr_num_Fault : Nat := 109
def ty_struct_Code_api_Errno_At_int : Nat := 110
def ty_num_Fault : Nat := 111
def ty_func_int_int_string_error : Nat := 112
def ty_slice_string : Nat := 113
def ty_func_int_int_string_uint8_int : Nat := 114
def ty_func_int_int_bool : Nat := 115
def ty_func_slice_frag_Piece_func_frag_Piece_bool_int : Nat := 116
def ty_func_int : Nat := 117
def ty_func_slice_frag_Piece_func_frag_Piece_frag_Piece_int : Nat := 119
def ty_func_frag_Piece_frag_Piece_int : Nat := 121
def ty_struct_s_string_at_int_bad_ptr_num_Fault : Nat := 122
def ty_num_Reader : Nat := 123
def ty_func_int_int_error : Nat := 124
def ty_func_slice_frag_Piece_int_func_frag_Piece_frag_Piece_int : Nat := 126
def ty_func_int_string_error : Nat := 127
def ty_func_slice_frag_Piece_int_int_func_frag_Piece_frag_Piece_int : Nat := 128
def ty_func_slice_frag_Piece_int_int_int_func_frag_Piece_frag_Piece_int : Nat := 129
def ty_struct_interface_ptr_abi_Type_concrete_ptr_abi_Type_asserted_ptr_abi_Type_missingMethod_string : Nat := 130
def ty_runtime_TypeAssertionError : Nat := 131
def ty_0_ptr_runtime_PanicNilError : Nat := 132
def ty_struct_0_ptr_runtime_PanicNilError : Nat := 133
def ty_runtime_PanicNilError : Nat := 134
def ty_abi_TFlag : Nat := 135
def ty_abi_Kind : Nat := 136
def ty_func_unsafe_Pointer_unsafe_Pointer_bool : Nat := 137
def ty_ptr_uint8 : Nat := 138
def ty_abi_NameOff : Nat := 139
def ty_abi_TypeOff : Nat := 140
def ty_struct_Size_uintptr_PtrBytes_uintptr_Hash_uint32_TFlag_abi_TFlag_Align_uint8_FieldAlign_uint8_Kind_abi_Kind_Equal_func_unsafe_Pointer_unsafe_Pointer_bool_GCData_ptr_uint8_Str_abi_NameOff_PtrToThis_abi_TypeOff : Nat := 141
def ty_abi_Type : Nat := 142
def ty_unsafe_Pointer : Nat := 143

/-- interpreter/interpreterlaw17.RefragFour -/
def c_interpreterlaw17_RefragFour : MFn := ⟨2, 86, (.seq (.reg [
  ⟨(some 2), none, .box (.tmp 0)⟩,
  ⟨(some 4), none, .mov (.cst (LV.bool false))⟩] []) (.seq (.seq (.reg [
  ⟨(some 12), none, .load 17 true (.tmp 2)⟩,
  ⟨(some 13), none, .call id_interpreterlaw17_Great4 [(.tmp 12)]⟩] []) (.cond (.tmp 13) (.seq (.reg [
  ⟨(some 14), none, .call id_interpreterlaw17_wakes []⟩,
  ⟨(some 4), none, .mov (.tmp 14)⟩] []) .ret) .skip)) (.seq (.reg [
  ⟨(some 16), none, .load 17 true (.tmp 2)⟩,
  ⟨(some 17), none, .mov (.tmp 1)⟩,
  ⟨(some 18), none, .call id_refrag_Cut4 [(.tmp 16), (.tmp 17)]⟩,
  ⟨(some 15), none, .mov (.tmp 18)⟩,
  ⟨(some 19), none, .extract (.tmp 15) 0⟩,
  ⟨(some 20), none, .extract (.tmp 15) 1⟩,
  ⟨(some 5), none, .mov (.tmp 19)⟩,
  ⟨(some 6), none, .mov (.tmp 20)⟩] []) (.seq (.reg [
  ⟨(some 22), none, .load 17 true (.tmp 2)⟩,
  ⟨(some 23), none, .call id_ip4_Bytes [(.tmp 22)]⟩,
  ⟨(some 21), none, .mov (.tmp 23)⟩,
  ⟨(some 24), none, .extract (.tmp 21) 0⟩,
  ⟨(some 25), none, .extract (.tmp 21) 1⟩,
  ⟨(some 7), none, .mov (.tmp 24)⟩,
  ⟨(some 8), none, .mov (.tmp 25)⟩] []) (.seq (.seq (.reg [
  ⟨(some 26), none, .mov (.tmp 8)⟩,
  ⟨(some 27), none, .eqNil 1 true (.tmp 26)⟩] []) (.cond (.tmp 27) (.seq (.reg [
  ⟨(some 28), none, .mov (.tmp 5)⟩,
  ⟨(some 29), none, .len false (.tmp 28)⟩,
  ⟨(some 30), none, .bin .eql (.tmp 29) (.cst (LV.int .i64 0))⟩,
  ⟨(some 31), none, .mov (.tmp 30)⟩,
  ⟨(some 32), (some (31, true)), .mov (.tmp 6)⟩,
  ⟨(some 33), (some (31, true)), .bin .eql (.tmp 32) (.cst (LV.int .i64 1))⟩,
  ⟨(some 34), none, .pick (.tmp 31) (.tmp 33) (.cst (LV.bool false))⟩,
  ⟨(some 35), none, .mov (.tmp 34)⟩,
  ⟨(some 36), (some (35, true)), .load 17 true (.tmp 2)⟩,
  ⟨(some 37), (some (35, true)), .call id_refrag_Len4 [(.tmp 36)]⟩,
  ⟨(some 38), (some (35, true)), .bin .eql (.tmp 37) (.cst (LV.int .i64 0))⟩,
  ⟨(some 39), none, .pick (.tmp 35) (.tmp 38) (.cst (LV.bool false))⟩,
  ⟨(some 40), none, .mov (.tmp 39)⟩,
  ⟨(some 41), (some (40, true)), .call id_interpreterlaw17_wakes []⟩,
  ⟨(some 42), none, .pick (.tmp 40) (.tmp 41) (.cst (LV.bool false))⟩,
  ⟨(some 4), none, .mov (.tmp 42)⟩] []) .ret) .skip)) (.seq (.reg [
  ⟨(some 44), none, .load 17 true (.tmp 2)⟩,
  ⟨(some 45), none, .mov (.tmp 1)⟩,
  ⟨(some 46), none, .call id_interpreterref17_Cut4 [(.tmp 44), (.tmp 45)]⟩,
  ⟨(some 43), none, .mov (.tmp 46)⟩,
  ⟨(some 47), none, .extract (.tmp 43) 0⟩,
  ⟨(some 48), none, .extract (.tmp 43) 1⟩,
  ⟨(some 9), none, .mov (.tmp 47)⟩,
  ⟨(some 10), none, .mov (.tmp 48)⟩] []) (.seq (.seq (.reg [
  ⟨(some 49), none, .mov (.tmp 6)⟩,
  ⟨(some 50), none, .mov (.tmp 10)⟩,
  ⟨(some 51), none, .bin .neq (.tmp 49) (.tmp 50)⟩,
  ⟨(some 52), none, .mov (.tmp 51)⟩,
  ⟨(some 53), (some (52, false)), .mov (.tmp 5)⟩,
  ⟨(some 54), (some (52, false)), .len false (.tmp 53)⟩,
  ⟨(some 55), (some (52, false)), .mov (.tmp 9)⟩,
  ⟨(some 56), (some (52, false)), .len false (.tmp 55)⟩,
  ⟨(some 57), (some (52, false)), .bin .neq (.tmp 54) (.tmp 56)⟩,
  ⟨(some 58), none, .pick (.tmp 52) (.cst (LV.bool true)) (.tmp 57)⟩,
  ⟨(some 59), none, .mov (.tmp 58)⟩,
  ⟨(some 60), (some (59, false)), .load 17 true (.tmp 2)⟩,
  ⟨(some 61), (some (59, false)), .call id_refrag_Len4 [(.tmp 60)]⟩,
  ⟨(some 62), (some (59, false)), .load 17 true (.tmp 2)⟩,
  ⟨(some 63), (some (59, false)), .call id_interpreterref17_Head4 [(.tmp 62)]⟩,
  ⟨(some 64), (some (59, false)), .fieldAddr 10 16 (.tmp 2)⟩,
  ⟨(some 65), (some (59, false)), .load 1 false (.tmp 64)⟩,
  ⟨(some 66), (some (59, false)), .len true (.tmp 65)⟩,
  ⟨(some 67), (some (59, false)), .bin .add (.tmp 63) (.tmp 66)⟩,
  ⟨(some 68), (some (59, false)), .bin .neq (.tmp 61) (.tmp 67)⟩,
  ⟨(some 69), none, .pick (.tmp 59) (.cst (LV.bool true)) (.tmp 68)⟩] []) (.cond (.tmp 69) (.seq (.reg [
  ⟨(some 4), none, .mov (.cst (LV.bool false))⟩] []) .ret) .skip)) (.seq (.seq (.reg [
  ⟨(some 11), none, .mov (.cst (LV.int .i64 0))⟩] []) (.block 0 (.loop [4, 11] [70, 71, 72, 73, 76, 77, 78, 79, 80, 81, 82, 83, 84, 74, 75] (.seq (.seq (.reg [
  ⟨(some 70), none, .mov (.tmp 11)⟩,
  ⟨(some 71), none, .mov (.tmp 5)⟩,
  ⟨(some 72), none, .len false (.tmp 71)⟩,
  ⟨(some 73), none, .bin .lss (.tmp 70) (.tmp 72)⟩] []) (.cond (.tmp 73) .skip (.exit 0))) (.seq (.block 1 (.seq (.reg [
  ⟨(some 76), none, .mov (.tmp 5)⟩,
  ⟨(some 77), none, .mov (.tmp 11)⟩,
  ⟨(some 78), none, .idxAddr none 17 (.tmp 76) (.tmp 77)⟩,
  ⟨(some 79), none, .load 17 true (.tmp 78)⟩,
  ⟨(some 80), none, .mov (.tmp 9)⟩,
  ⟨(some 81), none, .mov (.tmp 11)⟩,
  ⟨(some 82), none, .idxAddr none 17 (.tmp 80) (.tmp 81)⟩,
  ⟨(some 83), none, .load 17 true (.tmp 82)⟩,
  ⟨(some 84), none, .eqS (Sh.agg [(Sh.int .i64), (Sh.int .i64), (Sh.int .i64), (Sh.int .i64), (Sh.int .i64), Sh.bool, Sh.bool, (Sh.bytes 4), (Sh.bytes 4), Sh.str, Sh.str]) true (.tmp 79) (.tmp 83)⟩] []) (.cond (.tmp 84) (.seq (.reg [
  ⟨(some 4), none, .mov (.cst (LV.bool false))⟩] []) .ret) .skip))) (.reg [
  ⟨(some 74), none, .mov (.tmp 11)⟩,
  ⟨(some 75), none, .bin .add (.tmp 74) (.cst (LV.int .i64 1))⟩,
  ⟨(some 11), none, .mov (.tmp 75)⟩] [])))))) (.seq (.reg [
  ⟨(some 85), none, .call id_interpreterlaw17_wakes []⟩,
  ⟨(some 4), none, .mov (.tmp 85)⟩] []) .ret))))))))), [.tmp 4]⟩
/-- interpreter/interpreterlaw17.RefragSix -/
def c_interpreterlaw17_RefragSix : MFn := ⟨3, 91, (.seq (.reg [
  ⟨(some 3), none, .box (.tmp 0)⟩,
  ⟨(some 6), none, .mov (.cst (LV.bool false))⟩] []) (.seq (.seq (.reg [
  ⟨(some 14), none, .load 42 true (.tmp 3)⟩,
  ⟨(some 15), none, .call id_interpreterlaw17_Great6 [(.tmp 14)]⟩] []) (.cond (.tmp 15) (.seq (.reg [
  ⟨(some 16), none, .call id_interpreterlaw17_wakes []⟩,
  ⟨(some 6), none, .mov (.tmp 16)⟩] []) .ret) .skip)) (.seq (.reg [
  ⟨(some 18), none, .load 42 true (.tmp 3)⟩,
  ⟨(some 19), none, .mov (.tmp 1)⟩,
  ⟨(some 20), none, .mov (.tmp 2)⟩,
  ⟨(some 21), none, .call id_refrag_Cut6 [(.tmp 18), (.tmp 19), (.tmp 20)]⟩,
  ⟨(some 17), none, .mov (.tmp 21)⟩,
  ⟨(some 22), none, .extract (.tmp 17) 0⟩,
  ⟨(some 23), none, .extract (.tmp 17) 1⟩,
  ⟨(some 7), none, .mov (.tmp 22)⟩,
  ⟨(some 8), none, .mov (.tmp 23)⟩] []) (.seq (.reg [
  ⟨(some 25), none, .load 42 true (.tmp 3)⟩,
  ⟨(some 26), none, .call id_ip6_Bytes [(.tmp 25)]⟩,
  ⟨(some 24), none, .mov (.tmp 26)⟩,
  ⟨(some 27), none, .extract (.tmp 24) 0⟩,
  ⟨(some 28), none, .extract (.tmp 24) 1⟩,
  ⟨(some 9), none, .mov (.tmp 27)⟩,
  ⟨(some 10), none, .mov (.tmp 28)⟩] []) (.seq (.seq (.reg [
  ⟨(some 29), none, .mov (.tmp 10)⟩,
  ⟨(some 30), none, .eqNil 1 true (.tmp 29)⟩] []) (.cond (.tmp 30) (.seq (.reg [
  ⟨(some 31), none, .mov (.tmp 7)⟩,
  ⟨(some 32), none, .len false (.tmp 31)⟩,
  ⟨(some 33), none, .bin .eql (.tmp 32) (.cst (LV.int .i64 0))⟩,
  ⟨(some 34), none, .mov (.tmp 33)⟩,
  ⟨(some 35), (some (34, true)), .mov (.tmp 8)⟩,
  ⟨(some 36), (some (34, true)), .bin .eql (.tmp 35) (.cst (LV.int .i64 1))⟩,
  ⟨(some 37), none, .pick (.tmp 34) (.tmp 36) (.cst (LV.bool false))⟩,
  ⟨(some 38), none, .mov (.tmp 37)⟩,
  ⟨(some 39), (some (38, true)), .load 42 true (.tmp 3)⟩,
  ⟨(some 40), (some (38, true)), .call id_refrag_Len6 [(.tmp 39)]⟩,
  ⟨(some 41), (some (38, true)), .bin .eql (.tmp 40) (.cst (LV.int .i64 0))⟩,
  ⟨(some 42), none, .pick (.tmp 38) (.tmp 41) (.cst (LV.bool false))⟩,
  ⟨(some 43), none, .mov (.tmp 42)⟩,
  ⟨(some 44), (some (43, true)), .call id_interpreterlaw17_wakes []⟩,
  ⟨(some 45), none, .pick (.tmp 43) (.tmp 44) (.cst (LV.bool false))⟩,
  ⟨(some 6), none, .mov (.tmp 45)⟩] []) .ret) .skip)) (.seq (.reg [
  ⟨(some 47), none, .load 42 true (.tmp 3)⟩,
  ⟨(some 48), none, .mov (.tmp 1)⟩,
  ⟨(some 49), none, .mov (.tmp 2)⟩,
  ⟨(some 50), none, .call id_interpreterref17_Cut6 [(.tmp 47), (.tmp 48), (.tmp 49)]⟩,
  ⟨(some 46), none, .mov (.tmp 50)⟩,
  ⟨(some 51), none, .extract (.tmp 46) 0⟩,
  ⟨(some 52), none, .extract (.tmp 46) 1⟩,
  ⟨(some 11), none, .mov (.tmp 51)⟩,
  ⟨(some 12), none, .mov (.tmp 52)⟩] []) (.seq (.seq (.reg [
  ⟨(some 53), none, .mov (.tmp 8)⟩,
  ⟨(some 54), none, .mov (.tmp 12)⟩,
  ⟨(some 55), none, .bin .neq (.tmp 53) (.tmp 54)⟩,
  ⟨(some 56), none, .mov (.tmp 55)⟩,
  ⟨(some 57), (some (56, false)), .mov (.tmp 7)⟩,
  ⟨(some 58), (some (56, false)), .len false (.tmp 57)⟩,
  ⟨(some 59), (some (56, false)), .mov (.tmp 11)⟩,
  ⟨(some 60), (some (56, false)), .len false (.tmp 59)⟩,
  ⟨(some 61), (some (56, false)), .bin .neq (.tmp 58) (.tmp 60)⟩,
  ⟨(some 62), none, .pick (.tmp 56) (.cst (LV.bool true)) (.tmp 61)⟩,
  ⟨(some 63), none, .mov (.tmp 62)⟩,
  ⟨(some 64), (some (63, false)), .load 42 true (.tmp 3)⟩,
  ⟨(some 65), (some (63, false)), .call id_refrag_Len6 [(.tmp 64)]⟩,
  ⟨(some 66), (some (63, false)), .load 42 true (.tmp 3)⟩,
  ⟨(some 67), (some (63, false)), .call id_interpreterref17_Head6 [(.tmp 66)]⟩,
  ⟨(some 68), (some (63, false)), .fieldAddr 11 41 (.tmp 3)⟩,
  ⟨(some 69), (some (63, false)), .load 1 false (.tmp 68)⟩,
  ⟨(some 70), (some (63, false)), .len true (.tmp 69)⟩,
  ⟨(some 71), (some (63, false)), .bin .add (.tmp 67) (.tmp 70)⟩,
  ⟨(some 72), (some (63, false)), .bin .neq (.tmp 65) (.tmp 71)⟩,
  ⟨(some 73), none, .pick (.tmp 63) (.cst (LV.bool true)) (.tmp 72)⟩] []) (.cond (.tmp 73) (.seq (.reg [
  ⟨(some 6), none, .mov (.cst (LV.bool false))⟩] []) .ret) .skip)) (.seq (.seq (.reg [
  ⟨(some 13), none, .mov (.cst (LV.int .i64 0))⟩] []) (.block 0 (.loop [6, 13] [74, 75, 76, 77, 80, 81, 82, 83, 84, 85, 86, 87, 88, 89, 78, 79] (.seq (.seq (.reg [
  ⟨(some 74), none, .mov (.tmp 13)⟩,
  ⟨(some 75), none, .mov (.tmp 7)⟩,
  ⟨(some 76), none, .len false (.tmp 75)⟩,
  ⟨(some 77), none, .bin .lss (.tmp 74) (.tmp 76)⟩] []) (.cond (.tmp 77) .skip (.exit 0))) (.seq (.block 1 (.seq (.reg [
  ⟨(some 80), none, .mov (.tmp 7)⟩,
  ⟨(some 81), none, .mov (.tmp 13)⟩,
  ⟨(some 82), none, .idxAddr none 42 (.tmp 80) (.tmp 81)⟩,
  ⟨(some 83), none, .load 42 true (.tmp 82)⟩,
  ⟨(some 84), none, .mov (.tmp 11)⟩,
  ⟨(some 85), none, .mov (.tmp 13)⟩,
  ⟨(some 86), none, .idxAddr none 42 (.tmp 84) (.tmp 85)⟩,
  ⟨(some 87), none, .load 42 true (.tmp 86)⟩,
  ⟨(some 88), none, .call id_interpreterlaw17_same6 [(.tmp 83), (.tmp 87)]⟩,
  ⟨(some 89), none, .un .not (.tmp 88)⟩] []) (.cond (.tmp 89) (.seq (.reg [
  ⟨(some 6), none, .mov (.cst (LV.bool false))⟩] []) .ret) .skip))) (.reg [
  ⟨(some 78), none, .mov (.tmp 13)⟩,
  ⟨(some 79), none, .bin .add (.tmp 78) (.cst (LV.int .i64 1))⟩,
  ⟨(some 13), none, .mov (.tmp 79)⟩] [])))))) (.seq (.reg [
  ⟨(some 90), none, .call id_interpreterlaw17_wakes []⟩,
  ⟨(some 6), none, .mov (.tmp 90)⟩] []) .ret))))))))), [.tmp 6]⟩
/-- interpreter/interpreterlaw17.RefragAgain -/
def c_interpreterlaw17_RefragAgain : MFn := ⟨3, 153, (.seq (.reg [
  ⟨(some 3), none, .box (.tmp 0)⟩,
  ⟨(some 6), none, .mov (.cst (LV.bool false))⟩] []) (.seq (.seq (.reg [
  ⟨(some 17), none, .load 17 true (.tmp 3)⟩,
  ⟨(some 18), none, .call id_interpreterlaw17_Great4 [(.tmp 17)]⟩] []) (.cond (.tmp 18) (.seq (.reg [
  ⟨(some 19), none, .call id_interpreterlaw17_wakes []⟩,
  ⟨(some 6), none, .mov (.tmp 19)⟩] []) .ret) .skip)) (.seq (.reg [
  ⟨(some 21), none, .load 17 true (.tmp 3)⟩,
  ⟨(some 22), none, .mov (.tmp 1)⟩,
  ⟨(some 23), none, .call id_refrag_Cut4 [(.tmp 21), (.tmp 22)]⟩,
  ⟨(some 20), none, .mov (.tmp 23)⟩,
  ⟨(some 24), none, .extract (.tmp 20) 0⟩,
  ⟨(some 25), none, .extract (.tmp 20) 1⟩,
  ⟨(some 7), none, .mov (.tmp 24)⟩,
  ⟨(some 8), none, .mov (.tmp 25)⟩] []) (.seq (.seq (.reg [
  ⟨(some 26), none, .mov (.tmp 8)⟩,
  ⟨(some 27), none, .bin .neq (.tmp 26) (.cst (LV.int .i64 0))⟩] []) (.cond (.tmp 27) (.seq (.reg [
  ⟨(some 28), none, .mov (.tmp 7)⟩,
  ⟨(some 29), none, .len false (.tmp 28)⟩,
  ⟨(some 30), none, .bin .eql (.tmp 29) (.cst (LV.int .i64 0))⟩,
  ⟨(some 31), none, .mov (.tmp 30)⟩,
  ⟨(some 32), (some (31, true)), .call id_interpreterlaw17_wakes []⟩,
  ⟨(some 33), none, .pick (.tmp 31) (.tmp 32) (.cst (LV.bool false))⟩,
  ⟨(some 6), none, .mov (.tmp 33)⟩] []) .ret) .skip)) (.seq (.reg [
  ⟨(some 34), none, .fieldAddr 4 4 (.tmp 3)⟩,
  ⟨(some 35), none, .load 1 false (.tmp 34)⟩,
  ⟨(some 9), none, .mov (.tmp 35)⟩] []) (.seq (.reg [
  ⟨(some 10), none, .mov (.cst (LV.str []))⟩] []) (.seq (.reg [
  ⟨(some 11), none, .mov (.cst (LV.bool false))⟩] []) (.seq (.seq (.reg [
  ⟨(some 12), none, .mov (.cst (LV.int .i64 0))⟩] []) (.block 0 (.loop [6, 9, 10, 11, 12] [36, 37, 38, 39, 43, 44, 45, 46, 47, 48, 42, 49, 50, 13, 14, 51, 52, 53, 54, 55, 56, 57, 58, 15, 59, 60, 61, 62, 65, 66, 67, 68, 69, 70, 71, 72, 73, 74, 75, 76, 77, 78, 79, 80, 81, 82, 83, 84, 85, 86, 87, 88, 89, 90, 91, 92, 93, 94, 95, 96, 97, 98, 99, 100, 101, 102, 103, 104, 105, 106, 107, 108, 109, 110, 111, 112, 113, 114, 115, 116, 117, 118, 119, 120, 121, 122, 123, 124, 125, 126, 127, 128, 129, 130, 131, 132, 133, 16, 134, 135, 136, 137, 138, 139, 63, 64, 40, 41] (.seq (.seq (.reg [
  ⟨(some 36), none, .mov (.tmp 12)⟩,
  ⟨(some 37), none, .mov (.tmp 7)⟩,
  ⟨(some 38), none, .len false (.tmp 37)⟩,
  ⟨(some 39), none, .bin .lss (.tmp 36) (.tmp 38)⟩] []) (.cond (.tmp 39) .skip (.exit 0))) (.seq (.block 1 (.seq (.reg [
  ⟨(some 43), none, .mov (.tmp 7)⟩,
  ⟨(some 44), none, .mov (.tmp 12)⟩,
  ⟨(some 45), none, .idxAddr none 17 (.tmp 43) (.tmp 44)⟩,
  ⟨(some 46), none, .load 17 true (.tmp 45)⟩,
  ⟨(some 47), none, .mov (.tmp 2)⟩,
  ⟨(some 48), none, .call id_refrag_Cut4 [(.tmp 46), (.tmp 47)]⟩,
  ⟨(some 42), none, .mov (.tmp 48)⟩,
  ⟨(some 49), none, .extract (.tmp 42) 0⟩,
  ⟨(some 50), none, .extract (.tmp 42) 1⟩,
  ⟨(some 13), none, .mov (.tmp 49)⟩,
  ⟨(some 14), none, .mov (.tmp 50)⟩] []) (.seq (.seq (.reg [
  ⟨(some 51), none, .mov (.tmp 14)⟩,
  ⟨(some 52), none, .bin .neq (.tmp 51) (.cst (LV.int .i64 0))⟩] []) (.cond (.tmp 52) (.seq (.reg [
  ⟨(some 53), none, .mov (.tmp 13)⟩,
  ⟨(some 54), none, .len false (.tmp 53)⟩,
  ⟨(some 55), none, .bin .eql (.tmp 54) (.cst (LV.int .i64 0))⟩,
  ⟨(some 56), none, .mov (.tmp 55)⟩,
  ⟨(some 57), (some (56, true)), .call id_interpreterlaw17_wakes []⟩,
  ⟨(some 58), none, .pick (.tmp 56) (.tmp 57) (.cst (LV.bool false))⟩,
  ⟨(some 6), none, .mov (.tmp 58)⟩] []) .ret) .skip)) (.seq (.reg [
  ⟨(some 15), none, .mov (.cst (LV.int .i64 0))⟩] []) (.block 2 (.loop [6, 9, 10, 11, 15] [59, 60, 61, 62, 65, 66, 67, 68, 69, 70, 71, 72, 73, 74, 75, 76, 77, 78, 79, 80, 81, 82, 83, 84, 85, 86, 87, 88, 89, 90, 91, 92, 93, 94, 95, 96, 97, 98, 99, 100, 101, 102, 103, 104, 105, 106, 107, 108, 109, 110, 111, 112, 113, 114, 115, 116, 117, 118, 119, 120, 121, 122, 123, 124, 125, 126, 127, 128, 129, 130, 131, 132, 133, 16, 134, 135, 136, 137, 138, 139, 63, 64] (.seq (.seq (.reg [
  ⟨(some 59), none, .mov (.tmp 15)⟩,
  ⟨(some 60), none, .mov (.tmp 13)⟩,
  ⟨(some 61), none, .len false (.tmp 60)⟩,
  ⟨(some 62), none, .bin .lss (.tmp 59) (.tmp 61)⟩] []) (.cond (.tmp 62) .skip (.exit 2))) (.seq (.block 3 (.seq (.seq (.reg [
  ⟨(some 65), none, .mov (.tmp 13)⟩,
  ⟨(some 66), none, .mov (.tmp 15)⟩,
  ⟨(some 67), none, .idxAddr none 17 (.tmp 65) (.tmp 66)⟩,
  ⟨(some 68), none, .fieldAddr 4 4 (.tmp 67)⟩,
  ⟨(some 69), none, .load 1 false (.tmp 68)⟩,
  ⟨(some 70), none, .mov (.tmp 9)⟩,
  ⟨(some 71), none, .bin .neq (.tmp 69) (.tmp 70)⟩,
  ⟨(some 72), none, .mov (.tmp 71)⟩,
  ⟨(some 73), (some (72, false)), .mov (.tmp 13)⟩,
  ⟨(some 74), (some (72, false)), .mov (.tmp 15)⟩,
  ⟨(some 75), (some (72, false)), .idxAddr none 17 (.tmp 73) (.tmp 74)⟩,
  ⟨(some 76), (some (72, false)), .fieldAddr 1 1 (.tmp 75)⟩,
  ⟨(some 77), (some (72, false)), .load 1 false (.tmp 76)⟩,
  ⟨(some 78), (some (72, false)), .fieldAddr 1 1 (.tmp 3)⟩,
  ⟨(some 79), (some (72, false)), .load 1 false (.tmp 78)⟩,
  ⟨(some 80), (some (72, false)), .bin .neq (.tmp 77) (.tmp 79)⟩,
  ⟨(some 81), none, .pick (.tmp 72) (.cst (LV.bool true)) (.tmp 80)⟩,
  ⟨(some 82), none, .mov (.tmp 81)⟩,
  ⟨(some 83), (some (82, false)), .mov (.tmp 13)⟩,
  ⟨(some 84), (some (82, false)), .mov (.tmp 15)⟩,
  ⟨(some 85), (some (82, false)), .idxAddr none 17 (.tmp 83) (.tmp 84)⟩,
  ⟨(some 86), (some (82, false)), .fieldAddr 9 15 (.tmp 85)⟩,
  ⟨(some 87), (some (82, false)), .load 1 false (.tmp 86)⟩,
  ⟨(some 88), (some (82, false)), .fieldAddr 9 15 (.tmp 3)⟩,
  ⟨(some 89), (some (82, false)), .load 1 false (.tmp 88)⟩,
  ⟨(some 90), (some (82, false)), .bin .neq (.tmp 87) (.tmp 89)⟩,
  ⟨(some 91), none, .pick (.tmp 82) (.cst (LV.bool true)) (.tmp 90)⟩,
  ⟨(some 92), none, .mov (.tmp 91)⟩,
  ⟨(some 93), (some (92, false)), .mov (.tmp 13)⟩,
  ⟨(some 94), (some (92, false)), .mov (.tmp 15)⟩,
  ⟨(some 95), (some (92, false)), .idxAddr none 17 (.tmp 93) (.tmp 94)⟩,
  ⟨(some 96), (some (92, false)), .fieldAddr 2 2 (.tmp 95)⟩,
  ⟨(some 97), (some (92, false)), .load 1 false (.tmp 96)⟩,
  ⟨(some 98), (some (92, false)), .fieldAddr 2 2 (.tmp 3)⟩,
  ⟨(some 99), (some (92, false)), .load 1 false (.tmp 98)⟩,
  ⟨(some 100), (some (92, false)), .bin .neq (.tmp 97) (.tmp 99)⟩,
  ⟨(some 101), none, .pick (.tmp 92) (.cst (LV.bool true)) (.tmp 100)⟩] []) (.cond (.tmp 101) (.seq (.reg [
  ⟨(some 6), none, .mov (.cst (LV.bool false))⟩] []) .ret) .skip)) (.seq (.reg [
  ⟨(some 102), none, .mov (.tmp 9)⟩,
  ⟨(some 103), none, .mov (.tmp 13)⟩,
  ⟨(some 104), none, .mov (.tmp 15)⟩,
  ⟨(some 105), none, .idxAddr none 17 (.tmp 103) (.tmp 104)⟩,
  ⟨(some 106), none, .fieldAddr 10 16 (.tmp 105)⟩,
  ⟨(some 107), none, .load 1 false (.tmp 106)⟩,
  ⟨(some 108), none, .len true (.tmp 107)⟩,
  ⟨(some 109), none, .bin .add (.tmp 102) (.tmp 108)⟩,
  ⟨(some 9), none, .mov (.tmp 109)⟩] []) (.seq (.reg [
  ⟨(some 110), none, .mov (.tmp 10)⟩,
  ⟨(some 111), none, .mov (.tmp 13)⟩,
  ⟨(some 112), none, .mov (.tmp 15)⟩,
  ⟨(some 113), none, .idxAddr none 17 (.tmp 111) (.tmp 112)⟩,
  ⟨(some 114), none, .fieldAddr 10 16 (.tmp 113)⟩,
  ⟨(some 115), none, .load 1 false (.tmp 114)⟩,
  ⟨(some 116), none, .bin .add (.tmp 110) (.tmp 115)⟩,
  ⟨(some 10), none, .mov (.tmp 116)⟩] []) (.seq (.reg [
  ⟨(some 117), none, .mov (.tmp 13)⟩,
  ⟨(some 118), none, .mov (.tmp 15)⟩,
  ⟨(some 119), none, .idxAddr none 17 (.tmp 117) (.tmp 118)⟩,
  ⟨(some 120), none, .fieldAddr 6 6 (.tmp 119)⟩,
  ⟨(some 121), none, .load 1 false (.tmp 120)⟩,
  ⟨(some 11), none, .mov (.tmp 121)⟩] []) (.seq (.reg [
  ⟨(some 122), none, .mov (.tmp 12)⟩,
  ⟨(some 123), none, .mov (.tmp 7)⟩,
  ⟨(some 124), none, .len false (.tmp 123)⟩,
  ⟨(some 125), none, .bin .sub (.tmp 124) (.cst (LV.int .i64 1))⟩,
  ⟨(some 126), none, .bin .eql (.tmp 122) (.tmp 125)⟩,
  ⟨(some 127), none, .mov (.tmp 126)⟩,
  ⟨(some 128), (some (127, true)), .mov (.tmp 15)⟩,
  ⟨(some 129), (some (127, true)), .mov (.tmp 13)⟩,
  ⟨(some 130), (some (127, true)), .len false (.tmp 129)⟩,
  ⟨(some 131), (some (127, true)), .bin .sub (.tmp 130) (.cst (LV.int .i64 1))⟩,
  ⟨(some 132), (some (127, true)), .bin .eql (.tmp 128) (.tmp 131)⟩,
  ⟨(some 133), none, .pick (.tmp 127) (.tmp 132) (.cst (LV.bool false))⟩,
  ⟨(some 16), none, .mov (.tmp 133)⟩] []) (.seq (.reg [
  ⟨(some 134), none, .mov (.tmp 16)⟩,
  ⟨(some 135), none, .un .not (.tmp 134)⟩,
  ⟨(some 136), none, .mov (.tmp 135)⟩,
  ⟨(some 137), (some (136, true)), .mov (.tmp 11)⟩,
  ⟨(some 138), (some (136, true)), .un .not (.tmp 137)⟩,
  ⟨(some 139), none, .pick (.tmp 136) (.tmp 138) (.cst (LV.bool false))⟩] []) (.cond (.tmp 139) (.seq (.reg [
  ⟨(some 6), none, .mov (.cst (LV.bool false))⟩] []) .ret) .skip)))))))) (.reg [
  ⟨(some 63), none, .mov (.tmp 15)⟩,
  ⟨(some 64), none, .bin .add (.tmp 63) (.cst (LV.int .i64 1))⟩,
  ⟨(some 15), none, .mov (.tmp 64)⟩] []))))))))) (.reg [
  ⟨(some 40), none, .mov (.tmp 12)⟩,
  ⟨(some 41), none, .bin .add (.tmp 40) (.cst (LV.int .i64 1))⟩,
  ⟨(some 12), none, .mov (.tmp 41)⟩] [])))))) (.seq (.reg [
  ⟨(some 140), none, .mov (.tmp 10)⟩,
  ⟨(some 141), none, .fieldAddr 10 16 (.tmp 3)⟩,
  ⟨(some 142), none, .load 1 false (.tmp 141)⟩,
  ⟨(some 143), none, .bin .eql (.tmp 140) (.tmp 142)⟩,
  ⟨(some 144), none, .mov (.tmp 143)⟩,
  ⟨(some 145), (some (144, true)), .mov (.tmp 11)⟩,
  ⟨(some 146), (some (144, true)), .fieldAddr 6 6 (.tmp 3)⟩,
  ⟨(some 147), (some (144, true)), .load 1 false (.tmp 146)⟩,
  ⟨(some 148), (some (144, true)), .eqB false (.tmp 145) (.tmp 147)⟩,
  ⟨(some 149), none, .pick (.tmp 144) (.tmp 148) (.cst (LV.bool false))⟩,
  ⟨(some 150), none, .mov (.tmp 149)⟩,
  ⟨(some 151), (some (150, true)), .call id_interpreterlaw17_wakes []⟩,
  ⟨(some 152), none, .pick (.tmp 150) (.tmp 151) (.cst (LV.bool false))⟩,
  ⟨(some 6), none, .mov (.tmp 152)⟩] []) .ret))))))))), [.tmp 6]⟩
/-- interpreter/interpreterlaw17.RefragKnown -/
def c_interpreterlaw17_RefragKnown : MFn := ⟨0, 287, (.seq (.reg [
  ⟨(some 0), none, .mov (.cst (LV.bool false))⟩] []) (.seq (.reg [
  ⟨(some 31), none, .call id_interpreterlaw17_four [(.cst (LV.int .i64 100))]⟩,
  ⟨(some 32), none, .call id_refrag_Cut4 [(.tmp 31), (.cst (LV.int .i64 68))]⟩,
  ⟨(some 30), none, .mov (.tmp 32)⟩,
  ⟨(some 33), none, .extract (.tmp 30) 0⟩,
  ⟨(some 34), none, .extract (.tmp 30) 1⟩,
  ⟨(some 1), none, .mov (.tmp 33)⟩,
  ⟨(some 2), none, .mov (.tmp 34)⟩] []) (.seq (.seq (.reg [
  ⟨(some 35), none, .mov (.tmp 2)⟩,
  ⟨(some 36), none, .bin .neq (.tmp 35) (.cst (LV.int .i64 0))⟩,
  ⟨(some 37), none, .mov (.tmp 36)⟩,
  ⟨(some 38), (some (37, false)), .mov (.tmp 1)⟩,
  ⟨(some 39), (some (37, false)), .len false (.tmp 38)⟩,
  ⟨(some 40), (some (37, false)), .bin .neq (.tmp 39) (.cst (LV.int .i64 3))⟩,
  ⟨(some 41), none, .pick (.tmp 37) (.cst (LV.bool true)) (.tmp 40)⟩] []) (.cond (.tmp 41) (.seq (.reg [
  ⟨(some 0), none, .mov (.cst (LV.bool false))⟩] []) .ret) .skip)) (.seq (.reg [
  ⟨(some 42), none, .bsl (LV.int .i64 0) 3 [(0, (.cst (LV.int .i64 0))), (1, (.cst (LV.int .i64 48))), (2, (.cst (LV.int .i64 96)))]⟩,
  ⟨(some 3), none, .mov (.tmp 42)⟩] []) (.seq (.reg [
  ⟨(some 43), none, .bsl (LV.int .i64 0) 3 [(0, (.cst (LV.int .i64 48))), (1, (.cst (LV.int .i64 48))), (2, (.cst (LV.int .i64 4)))]⟩,
  ⟨(some 4), none, .mov (.tmp 43)⟩] []) (.seq (.seq (.reg [
  ⟨(some 5), none, .mov (.cst (LV.int .i64 0))⟩] []) (.block 0 (.loop [0, 5] [44, 45, 48, 49, 50, 51, 52, 53, 54, 55, 56, 57, 58, 59, 60, 61, 62, 63, 64, 65, 66, 67, 68, 69, 70, 71, 72, 73, 74, 75, 76, 77, 78, 79, 80, 81, 82, 83, 84, 85, 86, 87, 88, 46, 47] (.seq (.seq (.reg [
  ⟨(some 44), none, .mov (.tmp 5)⟩,
  ⟨(some 45), none, .bin .lss (.tmp 44) (.cst (LV.int .i64 3))⟩] []) (.cond (.tmp 45) .skip (.exit 0))) (.seq (.block 1 (.seq (.reg [
  ⟨(some 48), none, .mov (.tmp 1)⟩,
  ⟨(some 49), none, .mov (.tmp 5)⟩,
  ⟨(some 50), none, .idxAddr none 17 (.tmp 48) (.tmp 49)⟩,
  ⟨(some 51), none, .fieldAddr 4 4 (.tmp 50)⟩,
  ⟨(some 52), none, .load 1 false (.tmp 51)⟩,
  ⟨(some 53), none, .mov (.tmp 3)⟩,
  ⟨(some 54), none, .mov (.tmp 5)⟩,
  ⟨(some 55), none, .idxAddr none 1 (.tmp 53) (.tmp 54)⟩,
  ⟨(some 56), none, .load 1 false (.tmp 55)⟩,
  ⟨(some 57), none, .bin .neq (.tmp 52) (.tmp 56)⟩,
  ⟨(some 58), none, .mov (.tmp 57)⟩,
  ⟨(some 59), (some (58, false)), .mov (.tmp 1)⟩,
  ⟨(some 60), (some (58, false)), .mov (.tmp 5)⟩,
  ⟨(some 61), (some (58, false)), .idxAddr none 17 (.tmp 59) (.tmp 60)⟩,
  ⟨(some 62), (some (58, false)), .fieldAddr 10 16 (.tmp 61)⟩,
  ⟨(some 63), (some (58, false)), .load 1 false (.tmp 62)⟩,
  ⟨(some 64), (some (58, false)), .len true (.tmp 63)⟩,
  ⟨(some 65), (some (58, false)), .mov (.tmp 4)⟩,
  ⟨(some 66), (some (58, false)), .mov (.tmp 5)⟩,
  ⟨(some 67), (some (58, false)), .idxAddr none 1 (.tmp 65) (.tmp 66)⟩,
  ⟨(some 68), (some (58, false)), .load 1 false (.tmp 67)⟩,
  ⟨(some 69), (some (58, false)), .bin .neq (.tmp 64) (.tmp 68)⟩,
  ⟨(some 70), none, .pick (.tmp 58) (.cst (LV.bool true)) (.tmp 69)⟩,
  ⟨(some 71), none, .mov (.tmp 70)⟩,
  ⟨(some 72), (some (71, false)), .mov (.tmp 1)⟩,
  ⟨(some 73), (some (71, false)), .mov (.tmp 5)⟩,
  ⟨(some 74), (some (71, false)), .idxAddr none 17 (.tmp 72) (.tmp 73)⟩,
  ⟨(some 75), (some (71, false)), .fieldAddr 6 6 (.tmp 74)⟩,
  ⟨(some 76), (some (71, false)), .load 1 false (.tmp 75)⟩,
  ⟨(some 77), (some (71, false)), .mov (.tmp 5)⟩,
  ⟨(some 78), (some (71, false)), .bin .lss (.tmp 77) (.cst (LV.int .i64 2))⟩,
  ⟨(some 79), (some (71, false)), .eqB true (.tmp 76) (.tmp 78)⟩,
  ⟨(some 80), none, .pick (.tmp 71) (.cst (LV.bool true)) (.tmp 79)⟩,
  ⟨(some 81), none, .mov (.tmp 80)⟩,
  ⟨(some 82), (some (81, false)), .mov (.tmp 1)⟩,
  ⟨(some 83), (some (81, false)), .mov (.tmp 5)⟩,
  ⟨(some 84), (some (81, false)), .idxAddr none 17 (.tmp 82) (.tmp 83)⟩,
  ⟨(some 85), (some (81, false)), .fieldAddr 3 3 (.tmp 84)⟩,
  ⟨(some 86), (some (81, false)), .load 1 false (.tmp 85)⟩,
  ⟨(some 87), (some (81, false)), .bin .neq (.tmp 86) (.cst (LV.int .i64 17))⟩,
  ⟨(some 88), none, .pick (.tmp 81) (.cst (LV.bool true)) (.tmp 87)⟩] []) (.cond (.tmp 88) (.seq (.reg [
  ⟨(some 0), none, .mov (.cst (LV.bool false))⟩] []) .ret) .skip))) (.reg [
  ⟨(some 46), none, .mov (.tmp 5)⟩,
  ⟨(some 47), none, .bin .add (.tmp 46) (.cst (LV.int .i64 1))⟩,
  ⟨(some 5), none, .mov (.tmp 47)⟩] [])))))) (.seq (.reg [
  ⟨(some 89), none, .call id_interpreterlaw17_four [(.cst (LV.int .i64 100))]⟩,
  ⟨(some 6), none, .alloc (LV.agg [(LV.int .i64 0), (LV.int .i64 0), (LV.int .i64 0), (LV.int .i64 0), (LV.int .i64 0), (LV.bool false), (LV.bool false), (LV.bytes [0, 0, 0, 0]), (LV.bytes [0, 0, 0, 0]), (LV.str []), (LV.str [])])⟩,
  ⟨none, none, .store 17 true (.tmp 6) (.tmp 89)⟩] []) (.seq (.reg [
  ⟨(some 90), none, .fieldAddr 5 5 (.tmp 6)⟩,
  ⟨none, none, .store 1 false (.tmp 90) (.cst (LV.bool true))⟩] []) (.seq (.reg [
  ⟨(some 92), none, .load 17 true (.tmp 6)⟩,
  ⟨(some 93), none, .call id_refrag_Cut4 [(.tmp 92), (.cst (LV.int .i64 68))]⟩,
  ⟨(some 91), none, .mov (.tmp 93)⟩,
  ⟨(some 94), none, .extract (.tmp 91) 0⟩,
  ⟨(some 95), none, .extract (.tmp 91) 1⟩,
  ⟨(some 7), none, .mov (.tmp 94)⟩,
  ⟨(some 8), none, .mov (.tmp 95)⟩] []) (.seq (.reg [
  ⟨(some 97), none, .load 17 true (.tmp 6)⟩,
  ⟨(some 98), none, .call id_refrag_Cut4 [(.tmp 97), (.cst (LV.int .i64 67))]⟩,
  ⟨(some 96), none, .mov (.tmp 98)⟩,
  ⟨(some 99), none, .extract (.tmp 96) 0⟩,
  ⟨(some 100), none, .extract (.tmp 96) 1⟩,
  ⟨(some 9), none, .mov (.tmp 99)⟩,
  ⟨(some 10), none, .mov (.tmp 100)⟩] []) (.seq (.reg [
  ⟨(some 102), none, .load 17 true (.tmp 6)⟩,
  ⟨(some 103), none, .call id_refrag_Cut4 [(.tmp 102), (.cst (LV.int .i64 65536))]⟩,
  ⟨(some 101), none, .mov (.tmp 103)⟩,
  ⟨(some 104), none, .extract (.tmp 101) 0⟩,
  ⟨(some 105), none, .extract (.tmp 101) 1⟩,
  ⟨(some 11), none, .mov (.tmp 104)⟩,
  ⟨(some 12), none, .mov (.tmp 105)⟩] []) (.seq (.reg [
  ⟨(some 107), none, .load 17 true (.tmp 6)⟩,
  ⟨(some 108), none, .call id_refrag_Cut4 [(.tmp 107), (.cst (LV.int .i64 120))]⟩,
  ⟨(some 106), none, .mov (.tmp 108)⟩,
  ⟨(some 109), none, .extract (.tmp 106) 0⟩,
  ⟨(some 110), none, .extract (.tmp 106) 1⟩,
  ⟨(some 13), none, .mov (.tmp 109)⟩,
  ⟨(some 14), none, .mov (.tmp 110)⟩] []) (.seq (.reg [
  ⟨(some 111), none, .call id_interpreterlaw17_four [(.cst (LV.int .i64 1))]⟩,
  ⟨(some 15), none, .alloc (LV.agg [(LV.int .i64 0), (LV.int .i64 0), (LV.int .i64 0), (LV.int .i64 0), (LV.int .i64 0), (LV.bool false), (LV.bool false), (LV.bytes [0, 0, 0, 0]), (LV.bytes [0, 0, 0, 0]), (LV.str []), (LV.str [])])⟩,
  ⟨none, none, .store 17 true (.tmp 15) (.tmp 111)⟩] []) (.seq (.reg [
  ⟨(some 112), none, .fieldAddr 2 2 (.tmp 15)⟩,
  ⟨none, none, .store 1 false (.tmp 112) (.cst (LV.int .i64 256))⟩] []) (.seq (.reg [
  ⟨(some 114), none, .load 17 true (.tmp 15)⟩,
  ⟨(some 115), none, .call id_refrag_Cut4 [(.tmp 114), (.cst (LV.int .i64 100))]⟩,
  ⟨(some 113), none, .mov (.tmp 115)⟩,
  ⟨(some 116), none, .extract (.tmp 113) 0⟩,
  ⟨(some 117), none, .extract (.tmp 113) 1⟩,
  ⟨(some 16), none, .mov (.tmp 116)⟩,
  ⟨(some 17), none, .mov (.tmp 117)⟩] []) (.seq (.reg [
  ⟨(some 119), none, .call id_interpreterlaw17_six [(.cst (LV.int .i64 1241))]⟩,
  ⟨(some 120), none, .call id_refrag_Cut6 [(.tmp 119), (.cst (LV.int .i64 1280)), (.cst (LV.int .u32 7))]⟩,
  ⟨(some 118), none, .mov (.tmp 120)⟩,
  ⟨(some 121), none, .extract (.tmp 118) 0⟩,
  ⟨(some 122), none, .extract (.tmp 118) 1⟩,
  ⟨(some 18), none, .mov (.tmp 121)⟩,
  ⟨(some 19), none, .mov (.tmp 122)⟩] []) (.seq (.seq (.reg [
  ⟨(some 123), none, .mov (.tmp 19)⟩,
  ⟨(some 124), none, .bin .neq (.tmp 123) (.cst (LV.int .i64 0))⟩,
  ⟨(some 125), none, .mov (.tmp 124)⟩,
  ⟨(some 126), (some (125, false)), .mov (.tmp 18)⟩,
  ⟨(some 127), (some (125, false)), .len false (.tmp 126)⟩,
  ⟨(some 128), (some (125, false)), .bin .neq (.tmp 127) (.cst (LV.int .i64 2))⟩,
  ⟨(some 129), none, .pick (.tmp 125) (.cst (LV.bool true)) (.tmp 128)⟩] []) (.cond (.tmp 129) (.seq (.reg [
  ⟨(some 0), none, .mov (.cst (LV.bool false))⟩] []) .ret) .skip)) (.seq (.reg [
  ⟨(some 131), none, .call id_interpreterlaw17_six [(.cst (LV.int .i64 1240))]⟩,
  ⟨(some 132), none, .call id_refrag_Cut6 [(.tmp 131), (.cst (LV.int .i64 1280)), (.cst (LV.int .u32 7))]⟩,
  ⟨(some 130), none, .mov (.tmp 132)⟩,
  ⟨(some 133), none, .extract (.tmp 130) 0⟩,
  ⟨(some 134), none, .extract (.tmp 130) 1⟩,
  ⟨(some 20), none, .mov (.tmp 133)⟩,
  ⟨(some 21), none, .mov (.tmp 134)⟩] []) (.seq (.reg [
  ⟨(some 136), none, .call id_interpreterlaw17_six [(.cst (LV.int .i64 1))]⟩,
  ⟨(some 137), none, .call id_refrag_Cut6 [(.tmp 136), (.cst (LV.int .i64 1279)), (.cst (LV.int .u32 7))]⟩,
  ⟨(some 135), none, .mov (.tmp 137)⟩,
  ⟨(some 138), none, .extract (.tmp 135) 0⟩,
  ⟨(some 139), none, .extract (.tmp 135) 1⟩,
  ⟨(some 22), none, .mov (.tmp 138)⟩,
  ⟨(some 23), none, .mov (.tmp 139)⟩] []) (.seq (.reg [
  ⟨(some 140), none, .call id_interpreterlaw17_six [(.cst (LV.int .i64 1))]⟩,
  ⟨(some 24), none, .alloc (LV.agg [(LV.int .i64 0), (LV.int .i64 0), (LV.int .i64 0), (LV.bytes [0, 0, 0, 0, 0, 0, 0, 0, 0, 0, 0, 0, 0, 0, 0, 0]), (LV.bytes [0, 0, 0, 0, 0, 0, 0, 0, 0, 0, 0, 0, 0, 0, 0, 0]), LV.nils, (LV.bool false), (LV.int .u32 0), (LV.int .i64 0), (LV.bool false), (LV.int .i64 0), (LV.str [])])⟩,
  ⟨none, none, .store 42 true (.tmp 24) (.tmp 140)⟩] []) (.seq (.reg [
  ⟨(some 141), none, .mkSl (.cst (LV.int .i64 1230)) (.cst (LV.int .i64 1230))⟩,
  ⟨(some 142), none, .b2s (.tmp 141)⟩,
  ⟨(some 143), none, .build (LV.agg [(LV.int .i64 0), (LV.str [])]) [(0, (.cst (LV.int .i64 60))), (1, (.tmp 142))]⟩,
  ⟨(some 144), none, .bsl (LV.agg [(LV.int .i64 0), (LV.str [])]) 1 [(0, (.tmp 143))]⟩,
  ⟨(some 145), none, .fieldAddr 5 35 (.tmp 24)⟩,
  ⟨none, none, .store 1 false (.tmp 145) (.tmp 144)⟩] []) (.seq (.reg [
  ⟨(some 147), none, .load 42 true (.tmp 24)⟩,
  ⟨(some 148), none, .call id_refrag_Cut6 [(.tmp 147), (.cst (LV.int .i64 1280)), (.cst (LV.int .u32 7))]⟩,
  ⟨(some 146), none, .mov (.tmp 148)⟩,
  ⟨(some 149), none, .extract (.tmp 146) 0⟩,
  ⟨(some 150), none, .extract (.tmp 146) 1⟩,
  ⟨(some 25), none, .mov (.tmp 149)⟩,
  ⟨(some 26), none, .mov (.tmp 150)⟩] []) (.seq (.reg [
  ⟨(some 151), none, .mkSl (.cst (LV.int .i64 9)) (.cst (LV.int .i64 9))⟩,
  ⟨(some 152), none, .b2s (.tmp 151)⟩,
  ⟨(some 153), none, .fieldAddr 11 41 (.tmp 24)⟩,
  ⟨none, none, .store 1 false (.tmp 153) (.tmp 152)⟩] []) (.seq (.reg [
  ⟨(some 155), none, .load 42 true (.tmp 24)⟩,
  ⟨(some 156), none, .call id_refrag_Cut6 [(.tmp 155), (.cst (LV.int .i64 1280)), (.cst (LV.int .u32 7))]⟩,
  ⟨(some 154), none, .mov (.tmp 156)⟩,
  ⟨(some 157), none, .extract (.tmp 154) 0⟩,
  ⟨(some 158), none, .extract (.tmp 154) 1⟩,
  ⟨(some 27), none, .mov (.tmp 157)⟩,
  ⟨(some 28), none, .mov (.tmp 158)⟩] []) (.seq (.reg [
  ⟨(some 159), none, .mov (.tmp 18)⟩,
  ⟨(some 160), none, .idxAddr none 42 (.tmp 159) (.cst (LV.int .i64 0))⟩,
  ⟨(some 161), none, .fieldAddr 8 38 (.tmp 160)⟩,
  ⟨(some 162), none, .load 1 false (.tmp 161)⟩,
  ⟨(some 163), none, .bin .eql (.tmp 162) (.cst (LV.int .i64 0))⟩,
  ⟨(some 164), none, .mov (.tmp 163)⟩,
  ⟨(some 165), (some (164, true)), .mov (.tmp 18)⟩,
  ⟨(some 166), (some (164, true)), .idxAddr none 42 (.tmp 165) (.cst (LV.int .i64 0))⟩,
  ⟨(some 167), (some (164, true)), .fieldAddr 11 41 (.tmp 166)⟩,
  ⟨(some 168), (some (164, true)), .load 1 false (.tmp 167)⟩,
  ⟨(some 169), (some (164, true)), .len true (.tmp 168)⟩,
  ⟨(some 170), (some (164, true)), .bin .eql (.tmp 169) (.cst (LV.int .i64 1232))⟩,
  ⟨(some 171), none, .pick (.tmp 164) (.tmp 170) (.cst (LV.bool false))⟩,
  ⟨(some 172), none, .mov (.tmp 171)⟩,
  ⟨(some 173), (some (172, true)), .mov (.tmp 18)⟩,
  ⟨(some 174), (some (172, true)), .idxAddr none 42 (.tmp 173) (.cst (LV.int .i64 0))⟩,
  ⟨(some 175), (some (172, true)), .fieldAddr 9 39 (.tmp 174)⟩,
  ⟨(some 176), (some (172, true)), .load 1 false (.tmp 175)⟩,
  ⟨(some 177), none, .pick (.tmp 172) (.tmp 176) (.cst (LV.bool false))⟩,
  ⟨(some 178), none, .mov (.tmp 177)⟩,
  ⟨(some 179), (some (178, true)), .mov (.tmp 18)⟩,
  ⟨(some 180), (some (178, true)), .idxAddr none 42 (.tmp 179) (.cst (LV.int .i64 0))⟩,
  ⟨(some 181), (some (178, true)), .fieldAddr 6 36 (.tmp 180)⟩,
  ⟨(some 182), (some (178, true)), .load 1 false (.tmp 181)⟩,
  ⟨(some 183), none, .pick (.tmp 178) (.tmp 182) (.cst (LV.bool false))⟩,
  ⟨(some 184), none, .mov (.tmp 183)⟩,
  ⟨(some 185), (some (184, true)), .mov (.tmp 18)⟩,
  ⟨(some 186), (some (184, true)), .idxAddr none 42 (.tmp 185) (.cst (LV.int .i64 1))⟩,
  ⟨(some 187), (some (184, true)), .fieldAddr 8 38 (.tmp 186)⟩,
  ⟨(some 188), (some (184, true)), .load 1 false (.tmp 187)⟩,
  ⟨(some 189), (some (184, true)), .bin .eql (.tmp 188) (.cst (LV.int .i64 1232))⟩,
  ⟨(some 190), none, .pick (.tmp 184) (.tmp 189) (.cst (LV.bool false))⟩,
  ⟨(some 191), none, .mov (.tmp 190)⟩,
  ⟨(some 192), (some (191, true)), .mov (.tmp 18)⟩,
  ⟨(some 193), (some (191, true)), .idxAddr none 42 (.tmp 192) (.cst (LV.int .i64 1))⟩,
  ⟨(some 194), (some (191, true)), .fieldAddr 11 41 (.tmp 193)⟩,
  ⟨(some 195), (some (191, true)), .load 1 false (.tmp 194)⟩,
  ⟨(some 196), (some (191, true)), .len true (.tmp 195)⟩,
  ⟨(some 197), (some (191, true)), .bin .eql (.tmp 196) (.cst (LV.int .i64 9))⟩,
  ⟨(some 198), none, .pick (.tmp 191) (.tmp 197) (.cst (LV.bool false))⟩,
  ⟨(some 199), none, .mov (.tmp 198)⟩,
  ⟨(some 200), (some (199, true)), .mov (.tmp 18)⟩,
  ⟨(some 201), (some (199, true)), .idxAddr none 42 (.tmp 200) (.cst (LV.int .i64 1))⟩,
  ⟨(some 202), (some (199, true)), .fieldAddr 9 39 (.tmp 201)⟩,
  ⟨(some 203), (some (199, true)), .load 1 false (.tmp 202)⟩,
  ⟨(some 204), (some (199, true)), .un .not (.tmp 203)⟩,
  ⟨(some 205), none, .pick (.tmp 199) (.tmp 204) (.cst (LV.bool false))⟩,
  ⟨(some 206), none, .mov (.tmp 205)⟩,
  ⟨(some 207), (some (206, true)), .mov (.tmp 18)⟩,
  ⟨(some 208), (some (206, true)), .idxAddr none 42 (.tmp 207) (.cst (LV.int .i64 1))⟩,
  ⟨(some 209), (some (206, true)), .fieldAddr 7 37 (.tmp 208)⟩,
  ⟨(some 210), (some (206, true)), .load 1 false (.tmp 209)⟩,
  ⟨(some 211), (some (206, true)), .bin .eql (.tmp 210) (.cst (LV.int .u32 7))⟩,
  ⟨(some 212), none, .pick (.tmp 206) (.tmp 211) (.cst (LV.bool false))⟩,
  ⟨(some 29), none, .mov (.tmp 212)⟩] []) (.seq (.reg [
  ⟨(some 213), none, .mov (.tmp 8)⟩,
  ⟨(some 214), none, .bin .eql (.tmp 213) (.cst (LV.int .i64 3))⟩,
  ⟨(some 215), none, .mov (.tmp 214)⟩,
  ⟨(some 216), (some (215, true)), .mov (.tmp 10)⟩,
  ⟨(some 217), (some (215, true)), .bin .eql (.tmp 216) (.cst (LV.int .i64 1))⟩,
  ⟨(some 218), none, .pick (.tmp 215) (.tmp 217) (.cst (LV.bool false))⟩,
  ⟨(some 219), none, .mov (.tmp 218)⟩,
  ⟨(some 220), (some (219, true)), .mov (.tmp 12)⟩,
  ⟨(some 221), (some (219, true)), .bin .eql (.tmp 220) (.cst (LV.int .i64 1))⟩,
  ⟨(some 222), none, .pick (.tmp 219) (.tmp 221) (.cst (LV.bool false))⟩,
  ⟨(some 223), none, .mov (.tmp 222)⟩,
  ⟨(some 224), (some (223, true)), .mov (.tmp 14)⟩,
  ⟨(some 225), (some (223, true)), .bin .eql (.tmp 224) (.cst (LV.int .i64 0))⟩,
  ⟨(some 226), none, .pick (.tmp 223) (.tmp 225) (.cst (LV.bool false))⟩,
  ⟨(some 227), none, .mov (.tmp 226)⟩,
  ⟨(some 228), (some (227, true)), .mov (.tmp 13)⟩,
  ⟨(some 229), (some (227, true)), .len false (.tmp 228)⟩,
  ⟨(some 230), (some (227, true)), .bin .eql (.tmp 229) (.cst (LV.int .i64 1))⟩,
  ⟨(some 231), none, .pick (.tmp 227) (.tmp 230) (.cst (LV.bool false))⟩,
  ⟨(some 232), none, .mov (.tmp 231)⟩,
  ⟨(some 233), (some (232, true)), .mov (.tmp 13)⟩,
  ⟨(some 234), (some (232, true)), .idxAddr none 17 (.tmp 233) (.cst (LV.int .i64 0))⟩,
  ⟨(some 235), (some (232, true)), .load 17 true (.tmp 234)⟩,
  ⟨(some 236), (some (232, true)), .load 17 true (.tmp 6)⟩,
  ⟨(some 237), (some (232, true)), .eqS (Sh.agg [(Sh.int .i64), (Sh.int .i64), (Sh.int .i64), (Sh.int .i64), (Sh.int .i64), Sh.bool, Sh.bool, (Sh.bytes 4), (Sh.bytes 4), Sh.str, Sh.str]) false (.tmp 235) (.tmp 236)⟩,
  ⟨(some 238), none, .pick (.tmp 232) (.tmp 237) (.cst (LV.bool false))⟩,
  ⟨(some 239), none, .mov (.tmp 238)⟩,
  ⟨(some 240), (some (239, true)), .mov (.tmp 17)⟩,
  ⟨(some 241), (some (239, true)), .bin .eql (.tmp 240) (.cst (LV.int .i64 1))⟩,
  ⟨(some 242), none, .pick (.tmp 239) (.tmp 241) (.cst (LV.bool false))⟩,
  ⟨(some 243), none, .mov (.tmp 242)⟩,
  ⟨(some 244), (some (243, true)), .mov (.tmp 29)⟩,
  ⟨(some 245), none, .pick (.tmp 243) (.tmp 244) (.cst (LV.bool false))⟩,
  ⟨(some 246), none, .mov (.tmp 245)⟩,
  ⟨(some 247), (some (246, true)), .mov (.tmp 21)⟩,
  ⟨(some 248), (some (246, true)), .bin .eql (.tmp 247) (.cst (LV.int .i64 0))⟩,
  ⟨(some 249), none, .pick (.tmp 246) (.tmp 248) (.cst (LV.bool false))⟩,
  ⟨(some 250), none, .mov (.tmp 249)⟩,
  ⟨(some 251), (some (250, true)), .mov (.tmp 20)⟩,
  ⟨(some 252), (some (250, true)), .len false (.tmp 251)⟩,
  ⟨(some 253), (some (250, true)), .bin .eql (.tmp 252) (.cst (LV.int .i64 1))⟩,
  ⟨(some 254), none, .pick (.tmp 250) (.tmp 253) (.cst (LV.bool false))⟩,
  ⟨(some 255), none, .mov (.tmp 254)⟩,
  ⟨(some 256), (some (255, true)), .mov (.tmp 20)⟩,
  ⟨(some 257), (some (255, true)), .idxAddr none 42 (.tmp 256) (.cst (LV.int .i64 0))⟩,
  ⟨(some 258), (some (255, true)), .fieldAddr 6 36 (.tmp 257)⟩,
  ⟨(some 259), (some (255, true)), .load 1 false (.tmp 258)⟩,
  ⟨(some 260), (some (255, true)), .un .not (.tmp 259)⟩,
  ⟨(some 261), none, .pick (.tmp 255) (.tmp 260) (.cst (LV.bool false))⟩,
  ⟨(some 262), none, .mov (.tmp 261)⟩,
  ⟨(some 263), (some (262, true)), .mov (.tmp 23)⟩,
  ⟨(some 264), (some (262, true)), .bin .eql (.tmp 263) (.cst (LV.int .i64 1))⟩,
  ⟨(some 265), none, .pick (.tmp 262) (.tmp 264) (.cst (LV.bool false))⟩,
  ⟨(some 266), none, .mov (.tmp 265)⟩,
  ⟨(some 267), (some (266, true)), .mov (.tmp 26)⟩,
  ⟨(some 268), (some (266, true)), .bin .eql (.tmp 267) (.cst (LV.int .i64 0))⟩,
  ⟨(some 269), none, .pick (.tmp 266) (.tmp 268) (.cst (LV.bool false))⟩,
  ⟨(some 270), none, .mov (.tmp 269)⟩,
  ⟨(some 271), (some (270, true)), .mov (.tmp 28)⟩,
  ⟨(some 272), (some (270, true)), .bin .eql (.tmp 271) (.cst (LV.int .i64 13))⟩,
  ⟨(some 273), none, .pick (.tmp 270) (.tmp 272) (.cst (LV.bool false))⟩,
  ⟨(some 274), none, .mov (.tmp 273)⟩,
  ⟨(some 275), (some (274, true)), .call id_interpreterlaw17_six [(.cst (LV.int .i64 3))]⟩,
  ⟨(some 276), (some (274, true)), .call id_refrag_Len6 [(.tmp 275)]⟩,
  ⟨(some 277), (some (274, true)), .bin .eql (.tmp 276) (.cst (LV.int .i64 43))⟩,
  ⟨(some 278), none, .pick (.tmp 274) (.tmp 277) (.cst (LV.bool false))⟩,
  ⟨(some 279), none, .mov (.tmp 278)⟩,
  ⟨(some 280), (some (279, true)), .load 17 true (.tmp 15)⟩,
  ⟨(some 281), (some (279, true)), .call id_refrag_Len4 [(.tmp 280)]⟩,
  ⟨(some 282), (some (279, true)), .bin .eql (.tmp 281) (.cst (LV.int .i64 0))⟩,
  ⟨(some 283), none, .pick (.tmp 279) (.tmp 282) (.cst (LV.bool false))⟩,
  ⟨(some 284), none, .mov (.tmp 283)⟩,
  ⟨(some 285), (some (284, true)), .call id_interpreterlaw17_wakes []⟩,
  ⟨(some 286), none, .pick (.tmp 284) (.tmp 285) (.cst (LV.bool false))⟩,
  ⟨(some 0), none, .mov (.tmp 286)⟩] []) .ret)))))))))))))))))))))))))), [.tmp 0]⟩
/-- interpreter/interpreterlaw17.Great4 -/
def c_interpreterlaw17_Great4 : MFn := ⟨1, 13, (.seq (.reg [
  ⟨(some 1), none, .box (.tmp 0)⟩,
  ⟨(some 2), none, .mov (.cst (LV.bool false))⟩] []) (.seq (.reg [
  ⟨(some 3), none, .fieldAddr 10 16 (.tmp 1)⟩,
  ⟨(some 4), none, .load 1 false (.tmp 3)⟩,
  ⟨(some 5), none, .len true (.tmp 4)⟩,
  ⟨(some 6), none, .bin .gtr (.tmp 5) (.cst (LV.int .i64 4000))⟩,
  ⟨(some 7), none, .mov (.tmp 6)⟩,
  ⟨(some 8), (some (7, false)), .fieldAddr 9 15 (.tmp 1)⟩,
  ⟨(some 9), (some (7, false)), .load 1 false (.tmp 8)⟩,
  ⟨(some 10), (some (7, false)), .len true (.tmp 9)⟩,
  ⟨(some 11), (some (7, false)), .bin .gtr (.tmp 10) (.cst (LV.int .i64 100))⟩,
  ⟨(some 12), none, .pick (.tmp 7) (.cst (LV.bool true)) (.tmp 11)⟩,
  ⟨(some 2), none, .mov (.tmp 12)⟩] []) .ret)), [.tmp 2]⟩
/-- interpreter/interpreterlaw17.wakes -/
def c_interpreterlaw17_wakes : MFn := ⟨0, 78, (.seq (.reg [
  ⟨(some 0), none, .mov (.cst (LV.bool false))⟩] []) (.seq (.reg [
  ⟨(some 6), none, .call id_interpreterlaw17_four [(.cst (LV.int .i64 100))]⟩,
  ⟨(some 7), none, .call id_refrag_Cut4 [(.tmp 6), (.cst (LV.int .i64 68))]⟩,
  ⟨(some 5), none, .mov (.tmp 7)⟩,
  ⟨(some 8), none, .extract (.tmp 5) 0⟩,
  ⟨(some 9), none, .extract (.tmp 5) 1⟩,
  ⟨(some 1), none, .mov (.tmp 8)⟩,
  ⟨(some 2), none, .mov (.tmp 9)⟩] []) (.seq (.reg [
  ⟨(some 11), none, .call id_interpreterlaw17_six [(.cst (LV.int .i64 1241))]⟩,
  ⟨(some 12), none, .call id_refrag_Cut6 [(.tmp 11), (.cst (LV.int .i64 1280)), (.cst (LV.int .u32 7))]⟩,
  ⟨(some 10), none, .mov (.tmp 12)⟩,
  ⟨(some 13), none, .extract (.tmp 10) 0⟩,
  ⟨(some 14), none, .extract (.tmp 10) 1⟩,
  ⟨(some 3), none, .mov (.tmp 13)⟩,
  ⟨(some 4), none, .mov (.tmp 14)⟩] []) (.seq (.reg [
  ⟨(some 15), none, .mov (.tmp 2)⟩,
  ⟨(some 16), none, .bin .eql (.tmp 15) (.cst (LV.int .i64 0))⟩,
  ⟨(some 17), none, .mov (.tmp 16)⟩,
  ⟨(some 18), (some (17, true)), .mov (.tmp 1)⟩,
  ⟨(some 19), (some (17, true)), .len false (.tmp 18)⟩,
  ⟨(some 20), (some (17, true)), .bin .eql (.tmp 19) (.cst (LV.int .i64 3))⟩,
  ⟨(some 21), none, .pick (.tmp 17) (.tmp 20) (.cst (LV.bool false))⟩,
  ⟨(some 22), none, .mov (.tmp 21)⟩,
  ⟨(some 23), (some (22, true)), .mov (.tmp 1)⟩,
  ⟨(some 24), (some (22, true)), .idxAddr none 17 (.tmp 23) (.cst (LV.int .i64 1))⟩,
  ⟨(some 25), (some (22, true)), .fieldAddr 4 4 (.tmp 24)⟩,
  ⟨(some 26), (some (22, true)), .load 1 false (.tmp 25)⟩,
  ⟨(some 27), (some (22, true)), .bin .eql (.tmp 26) (.cst (LV.int .i64 48))⟩,
  ⟨(some 28), none, .pick (.tmp 22) (.tmp 27) (.cst (LV.bool false))⟩,
  ⟨(some 29), none, .mov (.tmp 28)⟩,
  ⟨(some 30), (some (29, true)), .mov (.tmp 1)⟩,
  ⟨(some 31), (some (29, true)), .idxAddr none 17 (.tmp 30) (.cst (LV.int .i64 2))⟩,
  ⟨(some 32), (some (29, true)), .fieldAddr 10 16 (.tmp 31)⟩,
  ⟨(some 33), (some (29, true)), .load 1 false (.tmp 32)⟩,
  ⟨(some 34), (some (29, true)), .len true (.tmp 33)⟩,
  ⟨(some 35), (some (29, true)), .bin .eql (.tmp 34) (.cst (LV.int .i64 4))⟩,
  ⟨(some 36), none, .pick (.tmp 29) (.tmp 35) (.cst (LV.bool false))⟩,
  ⟨(some 37), none, .mov (.tmp 36)⟩,
  ⟨(some 38), (some (37, true)), .mov (.tmp 1)⟩,
  ⟨(some 39), (some (37, true)), .idxAddr none 17 (.tmp 38) (.cst (LV.int .i64 1))⟩,
  ⟨(some 40), (some (37, true)), .fieldAddr 6 6 (.tmp 39)⟩,
  ⟨(some 41), (some (37, true)), .load 1 false (.tmp 40)⟩,
  ⟨(some 42), none, .pick (.tmp 37) (.tmp 41) (.cst (LV.bool false))⟩,
  ⟨(some 43), none, .mov (.tmp 42)⟩,
  ⟨(some 44), (some (43, true)), .mov (.tmp 1)⟩,
  ⟨(some 45), (some (43, true)), .idxAddr none 17 (.tmp 44) (.cst (LV.int .i64 2))⟩,
  ⟨(some 46), (some (43, true)), .fieldAddr 6 6 (.tmp 45)⟩,
  ⟨(some 47), (some (43, true)), .load 1 false (.tmp 46)⟩,
  ⟨(some 48), (some (43, true)), .un .not (.tmp 47)⟩,
  ⟨(some 49), none, .pick (.tmp 43) (.tmp 48) (.cst (LV.bool false))⟩,
  ⟨(some 50), none, .mov (.tmp 49)⟩,
  ⟨(some 51), (some (50, true)), .mov (.tmp 4)⟩,
  ⟨(some 52), (some (50, true)), .bin .eql (.tmp 51) (.cst (LV.int .i64 0))⟩,
  ⟨(some 53), none, .pick (.tmp 50) (.tmp 52) (.cst (LV.bool false))⟩,
  ⟨(some 54), none, .mov (.tmp 53)⟩,
  ⟨(some 55), (some (54, true)), .mov (.tmp 3)⟩,
  ⟨(some 56), (some (54, true)), .len false (.tmp 55)⟩,
  ⟨(some 57), (some (54, true)), .bin .eql (.tmp 56) (.cst (LV.int .i64 2))⟩,
  ⟨(some 58), none, .pick (.tmp 54) (.tmp 57) (.cst (LV.bool false))⟩,
  ⟨(some 59), none, .mov (.tmp 58)⟩,
  ⟨(some 60), (some (59, true)), .mov (.tmp 3)⟩,
  ⟨(some 61), (some (59, true)), .idxAddr none 42 (.tmp 60) (.cst (LV.int .i64 1))⟩,
  ⟨(some 62), (some (59, true)), .fieldAddr 8 38 (.tmp 61)⟩,
  ⟨(some 63), (some (59, true)), .load 1 false (.tmp 62)⟩,
  ⟨(some 64), (some (59, true)), .bin .eql (.tmp 63) (.cst (LV.int .i64 1232))⟩,
  ⟨(some 65), none, .pick (.tmp 59) (.tmp 64) (.cst (LV.bool false))⟩,
  ⟨(some 66), none, .mov (.tmp 65)⟩,
  ⟨(some 67), (some (66, true)), .mov (.tmp 3)⟩,
  ⟨(some 68), (some (66, true)), .idxAddr none 42 (.tmp 67) (.cst (LV.int .i64 1))⟩,
  ⟨(some 69), (some (66, true)), .fieldAddr 7 37 (.tmp 68)⟩,
  ⟨(some 70), (some (66, true)), .load 1 false (.tmp 69)⟩,
  ⟨(some 71), (some (66, true)), .bin .eql (.tmp 70) (.cst (LV.int .u32 7))⟩,
  ⟨(some 72), none, .pick (.tmp 66) (.tmp 71) (.cst (LV.bool false))⟩,
  ⟨(some 73), none, .mov (.tmp 72)⟩,
  ⟨(some 74), (some (73, true)), .call id_interpreterlaw17_four [(.cst (LV.int .i64 10))]⟩,
  ⟨(some 75), (some (73, true)), .call id_refrag_Len4 [(.tmp 74)]⟩,
  ⟨(some 76), (some (73, true)), .bin .eql (.tmp 75) (.cst (LV.int .i64 30))⟩,
  ⟨(some 77), none, .pick (.tmp 73) (.tmp 76) (.cst (LV.bool false))⟩,
  ⟨(some 0), none, .mov (.tmp 77)⟩] []) .ret)))), [.tmp 0]⟩
/-- interpreter/refrag.Cut4 -/
def c_refrag_Cut4 : MFn := ⟨2, 85, (.seq (.reg [
  ⟨(some 2), none, .box (.tmp 0)⟩,
  ⟨(some 4), none, .mov (.cst LV.nils)⟩,
  ⟨(some 5), none, .mov (.cst (LV.int .i64 0))⟩] []) (.seq (.reg [
  ⟨(some 12), none, .load 17 true (.tmp 2)⟩,
  ⟨(some 13), none, .call id_refrag_Len4 [(.tmp 12)]⟩,
  ⟨(some 6), none, .mov (.tmp 13)⟩] []) (.seq (.block 0 (.seq (.reg [
  ⟨(some 15), none, .mov (.tmp 6)⟩,
  ⟨(some 16), none, .bin .eql (.tmp 15) (.cst (LV.int .i64 0))⟩,
  ⟨(some 17), none, .mov (.tmp 16)⟩,
  ⟨(some 18), (some (17, false)), .mov (.tmp 1)⟩,
  ⟨(some 19), (some (17, false)), .bin .lss (.tmp 18) (.cst (LV.int .i64 68))⟩,
  ⟨(some 20), none, .pick (.tmp 17) (.cst (LV.bool true)) (.tmp 19)⟩,
  ⟨(some 21), none, .mov (.tmp 20)⟩,
  ⟨(some 22), (some (21, false)), .mov (.tmp 1)⟩,
  ⟨(some 23), (some (21, false)), .bin .gtr (.tmp 22) (.cst (LV.int .i64 65535))⟩,
  ⟨(some 24), none, .pick (.tmp 21) (.cst (LV.bool true)) (.tmp 23)⟩,
  ⟨(some 14), none, .mov (.tmp 24)⟩] []) (.cond (.tmp 14) (.seq (.reg [
  ⟨(some 4), none, .mov (.cst LV.nils)⟩,
  ⟨(some 5), none, .mov (.cst (LV.int .i64 1))⟩] []) .ret) (.seq (.reg [
  ⟨(some 26), none, .mov (.tmp 6)⟩,
  ⟨(some 27), none, .mov (.tmp 1)⟩,
  ⟨(some 28), none, .bin .leq (.tmp 26) (.tmp 27)⟩,
  ⟨(some 25), none, .mov (.tmp 28)⟩] []) (.cond (.tmp 25) (.seq (.reg [
  ⟨(some 29), none, .load 17 true (.tmp 2)⟩,
  ⟨(some 30), none, .bsl (LV.agg [(LV.int .i64 0), (LV.int .i64 0), (LV.int .i64 0), (LV.int .i64 0), (LV.int .i64 0), (LV.bool false), (LV.bool false), (LV.bytes [0, 0, 0, 0]), (LV.bytes [0, 0, 0, 0]), (LV.str []), (LV.str [])]) 1 [(0, (.tmp 29))]⟩,
  ⟨(some 4), none, .mov (.tmp 30)⟩,
  ⟨(some 5), none, .mov (.cst (LV.int .i64 0))⟩] []) .ret) (.seq (.reg [
  ⟨(some 32), none, .fieldAddr 5 5 (.tmp 2)⟩,
  ⟨(some 33), none, .load 1 false (.tmp 32)⟩,
  ⟨(some 31), none, .mov (.tmp 33)⟩] []) (.cond (.tmp 31) (.seq (.reg [
  ⟨(some 4), none, .mov (.cst LV.nils)⟩,
  ⟨(some 5), none, .mov (.cst (LV.int .i64 3))⟩] []) .ret) .skip))))))) (.seq (.reg [
  ⟨(some 34), none, .mov (.tmp 1)⟩,
  ⟨(some 35), none, .mov (.tmp 6)⟩,
  ⟨(some 36), none, .fieldAddr 10 16 (.tmp 2)⟩,
  ⟨(some 37), none, .load 1 false (.tmp 36)⟩,
  ⟨(some 38), none, .len true (.tmp 37)⟩,
  ⟨(some 39), none, .bin .sub (.tmp 35) (.tmp 38)⟩,
  ⟨(some 40), none, .bin .sub (.tmp 34) (.tmp 39)⟩,
  ⟨(some 41), none, .bin .quo (.tmp 40) (.cst (LV.int .i64 8))⟩,
  ⟨(some 42), none, .bin .mul (.tmp 41) (.cst (LV.int .i64 8))⟩,
  ⟨(some 7), none, .mov (.tmp 42)⟩] []) (.seq (.reg [
  ⟨(some 8), none, .nilT 17⟩] []) (.seq (.seq (.reg [
  ⟨(some 43), none, .fieldAddr 10 16 (.tmp 2)⟩,
  ⟨(some 44), none, .load 1 false (.tmp 43)⟩,
  ⟨(some 45), none, .len true (.tmp 44)⟩,
  ⟨(some 46), none, .mov (.tmp 7)⟩,
  ⟨(some 47), none, .call id_refrag_pieces [(.tmp 45), (.tmp 46)]⟩,
  ⟨(some 48), none, .len false (.tmp 47)⟩,
  ⟨(some 49), none, .mov (.cst (LV.int .i64 0))⟩] []) (.block 1 (.loop [8, 49] [50, 51, 52, 10, 53, 11, 54, 55, 56, 57, 58, 59, 60, 61, 62, 63, 64, 65, 66, 67, 68, 69, 70, 71, 72, 73, 74, 75, 76, 77, 78, 79, 80, 81, 82, 83] (.seq (.reg [
  ⟨(some 50), none, .bin .lss (.tmp 49) (.tmp 48)⟩] []) (.seq (.cond (.tmp 50) .skip (.exit 1)) (.seq (.block 2 (.seq (.reg [
  ⟨(some 51), none, .idxAddr none 2 (.tmp 47) (.tmp 49)⟩,
  ⟨(some 52), none, .load 2 true (.tmp 51)⟩,
  ⟨(some 10), none, .alloc (LV.agg [(LV.int .i64 0), (LV.int .i64 0)])⟩,
  ⟨none, none, .store 2 true (.tmp 10) (.tmp 52)⟩] []) (.seq (.reg [
  ⟨(some 53), none, .load 17 true (.tmp 2)⟩,
  ⟨(some 11), none, .alloc (LV.agg [(LV.int .i64 0), (LV.int .i64 0), (LV.int .i64 0), (LV.int .i64 0), (LV.int .i64 0), (LV.bool false), (LV.bool false), (LV.bytes [0, 0, 0, 0]), (LV.bytes [0, 0, 0, 0]), (LV.str []), (LV.str [])])⟩,
  ⟨none, none, .store 17 true (.tmp 11) (.tmp 53)⟩] []) (.seq (.reg [
  ⟨(some 54), none, .fieldAddr 4 4 (.tmp 2)⟩,
  ⟨(some 55), none, .load 1 false (.tmp 54)⟩,
  ⟨(some 56), none, .fieldAddr 0 0 (.tmp 10)⟩,
  ⟨(some 57), none, .load 1 false (.tmp 56)⟩,
  ⟨(some 58), none, .bin .add (.tmp 55) (.tmp 57)⟩,
  ⟨(some 59), none, .fieldAddr 10 16 (.tmp 2)⟩,
  ⟨(some 60), none, .load 1 false (.tmp 59)⟩,
  ⟨(some 61), none, .fieldAddr 0 0 (.tmp 10)⟩,
  ⟨(some 62), none, .load 1 false (.tmp 61)⟩,
  ⟨(some 63), none, .fieldAddr 1 1 (.tmp 10)⟩,
  ⟨(some 64), none, .load 1 false (.tmp 63)⟩,
  ⟨(some 65), none, .slc 0 (.tmp 60) (some (.tmp 62)) (some (.tmp 64))⟩,
  ⟨(some 66), none, .fieldAddr 6 6 (.tmp 2)⟩,
  ⟨(some 67), none, .load 1 false (.tmp 66)⟩,
  ⟨(some 68), none, .mov (.tmp 67)⟩,
  ⟨(some 69), (some (68, false)), .fieldAddr 1 1 (.tmp 10)⟩,
  ⟨(some 70), (some (68, false)), .load 1 false (.tmp 69)⟩,
  ⟨(some 71), (some (68, false)), .fieldAddr 10 16 (.tmp 2)⟩,
  ⟨(some 72), (some (68, false)), .load 1 false (.tmp 71)⟩,
  ⟨(some 73), (some (68, false)), .len true (.tmp 72)⟩,
  ⟨(some 74), (some (68, false)), .bin .lss (.tmp 70) (.tmp 73)⟩,
  ⟨(some 75), none, .pick (.tmp 68) (.cst (LV.bool true)) (.tmp 74)⟩,
  ⟨(some 76), none, .fieldAddr 4 4 (.tmp 11)⟩,
  ⟨none, none, .store 1 false (.tmp 76) (.tmp 58)⟩,
  ⟨(some 77), none, .fieldAddr 10 16 (.tmp 11)⟩,
  ⟨none, none, .store 1 false (.tmp 77) (.tmp 65)⟩,
  ⟨(some 78), none, .fieldAddr 6 6 (.tmp 11)⟩,
  ⟨none, none, .store 1 false (.tmp 78) (.tmp 75)⟩] [((.tmp 59), (.tmp 76)), ((.tmp 61), (.tmp 76)), ((.tmp 63), (.tmp 76)), ((.tmp 69), (.tmp 76)), ((.tmp 71), (.tmp 76)), ((.tmp 69), (.tmp 77)), ((.tmp 71), (.tmp 77))]) (.reg [
  ⟨(some 79), none, .mov (.tmp 8)⟩,
  ⟨(some 80), none, .load 17 true (.tmp 11)⟩,
  ⟨(some 81), none, .bsl (LV.agg [(LV.int .i64 0), (LV.int .i64 0), (LV.int .i64 0), (LV.int .i64 0), (LV.int .i64 0), (LV.bool false), (LV.bool false), (LV.bytes [0, 0, 0, 0]), (LV.bytes [0, 0, 0, 0]), (LV.str []), (LV.str [])]) 1 [(0, (.tmp 80))]⟩,
  ⟨(some 82), none, .append 17 88 (.tmp 79) (.tmp 81)⟩,
  ⟨(some 8), none, .mov (.tmp 82)⟩] []))))) (.reg [
  ⟨(some 83), none, .bin .add (.tmp 49) (.cst (LV.int .i64 1))⟩,
  ⟨(some 49), none, .mov (.tmp 83)⟩] []))))))) (.seq (.reg [
  ⟨(some 84), none, .mov (.tmp 8)⟩,
  ⟨(some 4), none, .mov (.tmp 84)⟩,
  ⟨(some 5), none, .mov (.cst (LV.int .i64 0))⟩] []) .ret))))))), [.tmp 4, .tmp 5]⟩
/-- interpreter/ip4.Bytes -/
def c_ip4_Bytes : MFn := ⟨1, 82, (.seq (.reg [
  ⟨(some 1), none, .box (.tmp 0)⟩,
  ⟨(some 2), none, .mov (.cst (LV.str []))⟩,
  ⟨(some 3), none, .mov (.cst LV.nili)⟩] []) (.seq (.seq (.reg [
  ⟨(some 9), none, .load 17 true (.tmp 1)⟩,
  ⟨(some 10), none, .call id_ip4_why [(.tmp 9)]⟩,
  ⟨(some 4), none, .mov (.tmp 10)⟩] []) (.seq (.reg [
  ⟨(some 11), none, .mov (.tmp 4)⟩,
  ⟨(some 12), none, .bin .neq (.tmp 11) (.cst (LV.int .i64 0))⟩] []) (.cond (.tmp 12) (.seq (.reg [
  ⟨(some 13), none, .mov (.tmp 4)⟩,
  ⟨(some 14), none, .call id_ip4_fault [(.tmp 13)]⟩,
  ⟨(some 2), none, .mov (.cst (LV.str []))⟩,
  ⟨(some 3), none, .mov (.tmp 14)⟩] []) .ret) .skip))) (.seq (.reg [
  ⟨(some 15), none, .fieldAddr 4 4 (.tmp 1)⟩,
  ⟨(some 16), none, .load 1 false (.tmp 15)⟩,
  ⟨(some 17), none, .bin .quo (.tmp 16) (.cst (LV.int .i64 8))⟩,
  ⟨(some 5), none, .mov (.tmp 17)⟩] []) (.seq (.seq (.reg [
  ⟨(some 18), none, .fieldAddr 5 5 (.tmp 1)⟩,
  ⟨(some 19), none, .load 1 false (.tmp 18)⟩] []) (.cond (.tmp 19) (.reg [
  ⟨(some 20), none, .mov (.tmp 5)⟩,
  ⟨(some 21), none, .bin .or (.tmp 20) (.cst (LV.int .i64 16384))⟩,
  ⟨(some 5), none, .mov (.tmp 21)⟩] []) .skip)) (.seq (.seq (.reg [
  ⟨(some 22), none, .fieldAddr 6 6 (.tmp 1)⟩,
  ⟨(some 23), none, .load 1 false (.tmp 22)⟩] []) (.cond (.tmp 23) (.reg [
  ⟨(some 24), none, .mov (.tmp 5)⟩,
  ⟨(some 25), none, .bin .or (.tmp 24) (.cst (LV.int .i64 8192))⟩,
  ⟨(some 5), none, .mov (.tmp 25)⟩] []) .skip)) (.seq (.reg [
  ⟨(some 26), none, .fieldAddr 9 15 (.tmp 1)⟩,
  ⟨(some 27), none, .load 1 false (.tmp 26)⟩,
  ⟨(some 28), none, .len true (.tmp 27)⟩,
  ⟨(some 29), none, .bin .add (.cst (LV.int .i64 20)) (.tmp 28)⟩,
  ⟨(some 6), none, .mov (.tmp 29)⟩] []) (.seq (.reg [
  ⟨(some 30), none, .mov (.tmp 6)⟩,
  ⟨(some 31), none, .bin .quo (.tmp 30) (.cst (LV.int .i64 4))⟩,
  ⟨(some 32), none, .bin .add (.cst (LV.int .i64 64)) (.tmp 31)⟩,
  ⟨(some 33), none, .call id_ip4_big [(.tmp 32), (.cst (LV.int .i64 1))]⟩,
  ⟨(some 34), none, .fieldAddr 0 0 (.tmp 1)⟩,
  ⟨(some 35), none, .load 1 false (.tmp 34)⟩,
  ⟨(some 36), none, .call id_ip4_big [(.tmp 35), (.cst (LV.int .i64 1))]⟩,
  ⟨(some 37), none, .bin .add (.tmp 33) (.tmp 36)⟩,
  ⟨(some 38), none, .mov (.tmp 6)⟩,
  ⟨(some 39), none, .fieldAddr 10 16 (.tmp 1)⟩,
  ⟨(some 40), none, .load 1 false (.tmp 39)⟩,
  ⟨(some 41), none, .len true (.tmp 40)⟩,
  ⟨(some 42), none, .bin .add (.tmp 38) (.tmp 41)⟩,
  ⟨(some 43), none, .call id_ip4_big [(.tmp 42), (.cst (LV.int .i64 2))]⟩,
  ⟨(some 44), none, .bin .add (.tmp 37) (.tmp 43)⟩,
  ⟨(some 45), none, .fieldAddr 1 1 (.tmp 1)⟩,
  ⟨(some 46), none, .load 1 false (.tmp 45)⟩,
  ⟨(some 47), none, .call id_ip4_big [(.tmp 46), (.cst (LV.int .i64 2))]⟩,
  ⟨(some 48), none, .bin .add (.tmp 44) (.tmp 47)⟩,
  ⟨(some 49), none, .mov (.tmp 5)⟩,
  ⟨(some 50), none, .call id_ip4_big [(.tmp 49), (.cst (LV.int .i64 2))]⟩,
  ⟨(some 51), none, .bin .add (.tmp 48) (.tmp 50)⟩,
  ⟨(some 52), none, .fieldAddr 2 2 (.tmp 1)⟩,
  ⟨(some 53), none, .load 1 false (.tmp 52)⟩,
  ⟨(some 54), none, .call id_ip4_big [(.tmp 53), (.cst (LV.int .i64 1))]⟩,
  ⟨(some 55), none, .bin .add (.tmp 51) (.tmp 54)⟩,
  ⟨(some 56), none, .fieldAddr 3 3 (.tmp 1)⟩,
  ⟨(some 57), none, .load 1 false (.tmp 56)⟩,
  ⟨(some 58), none, .call id_ip4_big [(.tmp 57), (.cst (LV.int .i64 1))]⟩,
  ⟨(some 59), none, .bin .add (.tmp 55) (.tmp 58)⟩,
  ⟨(some 7), none, .mov (.tmp 59)⟩] []) (.seq (.reg [
  ⟨(some 60), none, .fieldAddr 7 7 (.tmp 1)⟩,
  ⟨(some 61), none, .slcArr 4 (.tmp 60) none none⟩,
  ⟨(some 62), none, .b2s (.tmp 61)⟩,
  ⟨(some 63), none, .fieldAddr 8 11 (.tmp 1)⟩,
  ⟨(some 64), none, .slcArr 4 (.tmp 63) none none⟩,
  ⟨(some 65), none, .b2s (.tmp 64)⟩,
  ⟨(some 66), none, .bin .add (.tmp 62) (.tmp 65)⟩,
  ⟨(some 67), none, .fieldAddr 9 15 (.tmp 1)⟩,
  ⟨(some 68), none, .load 1 false (.tmp 67)⟩,
  ⟨(some 69), none, .bin .add (.tmp 66) (.tmp 68)⟩,
  ⟨(some 8), none, .mov (.tmp 69)⟩] []) (.seq (.reg [
  ⟨(some 70), none, .mov (.tmp 7)⟩,
  ⟨(some 71), none, .mov (.tmp 7)⟩,
  ⟨(some 72), none, .mov (.tmp 8)⟩,
  ⟨(some 73), none, .bsl (LV.str []) 2 [(0, (.tmp 71)), (1, (.tmp 72))]⟩,
  ⟨(some 74), none, .call id_sum_Of [(.tmp 73)]⟩,
  ⟨(some 75), none, .call id_ip4_big [(.tmp 74), (.cst (LV.int .i64 2))]⟩,
  ⟨(some 76), none, .bin .add (.tmp 70) (.tmp 75)⟩,
  ⟨(some 77), none, .mov (.tmp 8)⟩,
  ⟨(some 78), none, .bin .add (.tmp 76) (.tmp 77)⟩,
  ⟨(some 79), none, .fieldAddr 10 16 (.tmp 1)⟩,
  ⟨(some 80), none, .load 1 false (.tmp 79)⟩,
  ⟨(some 81), none, .bin .add (.tmp 78) (.tmp 80)⟩,
  ⟨(some 2), none, .mov (.tmp 81)⟩,
  ⟨(some 3), none, .mov (.cst LV.nili)⟩] []) .ret))))))))), [.tmp 2, .tmp 3]⟩
/-- interpreter/refrag.Len4 -/
def c_refrag_Len4 : MFn := ⟨1, 14, (.seq (.reg [
  ⟨(some 1), none, .box (.tmp 0)⟩,
  ⟨(some 2), none, .mov (.cst (LV.int .i64 0))⟩] []) (.seq (.reg [
  ⟨(some 6), none, .load 17 true (.tmp 1)⟩,
  ⟨(some 7), none, .call id_ip4_Bytes [(.tmp 6)]⟩,
  ⟨(some 5), none, .mov (.tmp 7)⟩,
  ⟨(some 8), none, .extract (.tmp 5) 0⟩,
  ⟨(some 9), none, .extract (.tmp 5) 1⟩,
  ⟨(some 3), none, .mov (.tmp 8)⟩,
  ⟨(some 4), none, .mov (.tmp 9)⟩] []) (.seq (.seq (.reg [
  ⟨(some 10), none, .mov (.tmp 4)⟩,
  ⟨(some 11), none, .eqNil 1 true (.tmp 10)⟩] []) (.cond (.tmp 11) (.seq (.reg [
  ⟨(some 2), none, .mov (.cst (LV.int .i64 0))⟩] []) .ret) .skip)) (.seq (.reg [
  ⟨(some 12), none, .mov (.tmp 3)⟩,
  ⟨(some 13), none, .len true (.tmp 12)⟩,
  ⟨(some 2), none, .mov (.tmp 13)⟩] []) .ret)))), [.tmp 2]⟩
/-- interpreter/interpreterref17.Cut4 -/
def c_interpreterref17_Cut4 : MFn := ⟨2, 63, (.seq (.reg [
  ⟨(some 2), none, .box (.tmp 0)⟩,
  ⟨(some 4), none, .mov (.cst LV.nils)⟩,
  ⟨(some 5), none, .mov (.cst (LV.int .i64 0))⟩] []) (.seq (.seq (.reg [
  ⟨(some 10), none, .mov (.tmp 1)⟩,
  ⟨(some 11), none, .bin .lss (.tmp 10) (.cst (LV.int .i64 68))⟩,
  ⟨(some 12), none, .mov (.tmp 11)⟩,
  ⟨(some 13), (some (12, false)), .mov (.tmp 1)⟩,
  ⟨(some 14), (some (12, false)), .bin .gtr (.tmp 13) (.cst (LV.int .i64 65535))⟩,
  ⟨(some 15), none, .pick (.tmp 12) (.cst (LV.bool true)) (.tmp 14)⟩] []) (.cond (.tmp 15) (.seq (.reg [
  ⟨(some 4), none, .mov (.cst LV.nils)⟩,
  ⟨(some 5), none, .mov (.cst (LV.int .i64 1))⟩] []) .ret) .skip)) (.seq (.seq (.reg [
  ⟨(some 16), none, .load 17 true (.tmp 2)⟩,
  ⟨(some 17), none, .call id_interpreterref17_Head4 [(.tmp 16)]⟩,
  ⟨(some 18), none, .fieldAddr 10 16 (.tmp 2)⟩,
  ⟨(some 19), none, .load 1 false (.tmp 18)⟩,
  ⟨(some 20), none, .len true (.tmp 19)⟩,
  ⟨(some 21), none, .bin .add (.tmp 17) (.tmp 20)⟩,
  ⟨(some 22), none, .mov (.tmp 1)⟩,
  ⟨(some 23), none, .bin .leq (.tmp 21) (.tmp 22)⟩] []) (.cond (.tmp 23) (.seq (.reg [
  ⟨(some 24), none, .load 17 true (.tmp 2)⟩,
  ⟨(some 25), none, .bsl (LV.agg [(LV.int .i64 0), (LV.int .i64 0), (LV.int .i64 0), (LV.int .i64 0), (LV.int .i64 0), (LV.bool false), (LV.bool false), (LV.bytes [0, 0, 0, 0]), (LV.bytes [0, 0, 0, 0]), (LV.str []), (LV.str [])]) 1 [(0, (.tmp 24))]⟩,
  ⟨(some 4), none, .mov (.tmp 25)⟩,
  ⟨(some 5), none, .mov (.cst (LV.int .i64 0))⟩] []) .ret) .skip)) (.seq (.seq (.reg [
  ⟨(some 26), none, .fieldAddr 5 5 (.tmp 2)⟩,
  ⟨(some 27), none, .load 1 false (.tmp 26)⟩] []) (.cond (.tmp 27) (.seq (.reg [
  ⟨(some 4), none, .mov (.cst LV.nils)⟩,
  ⟨(some 5), none, .mov (.cst (LV.int .i64 3))⟩] []) .ret) .skip)) (.seq (.reg [
  ⟨(some 28), none, .mov (.tmp 1)⟩,
  ⟨(some 29), none, .load 17 true (.tmp 2)⟩,
  ⟨(some 30), none, .call id_interpreterref17_Head4 [(.tmp 29)]⟩,
  ⟨(some 31), none, .call id_interpreterref17_Room [(.tmp 28), (.tmp 30)]⟩,
  ⟨(some 6), none, .mov (.tmp 31)⟩] []) (.seq (.reg [
  ⟨(some 7), none, .nilT 17⟩] []) (.seq (.reg [
  ⟨(some 32), none, .load 17 true (.tmp 2)⟩,
  ⟨(some 8), none, .alloc (LV.agg [(LV.int .i64 0), (LV.int .i64 0), (LV.int .i64 0), (LV.int .i64 0), (LV.int .i64 0), (LV.bool false), (LV.bool false), (LV.bytes [0, 0, 0, 0]), (LV.bytes [0, 0, 0, 0]), (LV.str []), (LV.str [])])⟩,
  ⟨none, none, .store 17 true (.tmp 8) (.tmp 32)⟩] []) (.seq (.block 0 (.loop [7] [33, 34, 35, 36, 37, 38, 9, 39, 40, 41, 42, 43, 44, 45, 46, 47, 48, 49, 50, 51, 52, 53, 54, 55, 56, 57, 58] (.seq (.seq (.reg [
  ⟨(some 33), none, .fieldAddr 10 16 (.tmp 8)⟩,
  ⟨(some 34), none, .load 1 false (.tmp 33)⟩,
  ⟨(some 35), none, .len true (.tmp 34)⟩,
  ⟨(some 36), none, .mov (.tmp 6)⟩,
  ⟨(some 37), none, .bin .gtr (.tmp 35) (.tmp 36)⟩] []) (.cond (.tmp 37) .skip (.exit 0))) (.block 1 (.seq (.reg [
  ⟨(some 38), none, .load 17 true (.tmp 8)⟩,
  ⟨(some 9), none, .alloc (LV.agg [(LV.int .i64 0), (LV.int .i64 0), (LV.int .i64 0), (LV.int .i64 0), (LV.int .i64 0), (LV.bool false), (LV.bool false), (LV.bytes [0, 0, 0, 0]), (LV.bytes [0, 0, 0, 0]), (LV.str []), (LV.str [])])⟩,
  ⟨none, none, .store 17 true (.tmp 9) (.tmp 38)⟩] []) (.seq (.reg [
  ⟨(some 39), none, .fieldAddr 10 16 (.tmp 8)⟩,
  ⟨(some 40), none, .load 1 false (.tmp 39)⟩,
  ⟨(some 41), none, .mov (.tmp 6)⟩,
  ⟨(some 42), none, .slc 0 (.tmp 40) none (some (.tmp 41))⟩,
  ⟨(some 43), none, .fieldAddr 10 16 (.tmp 9)⟩,
  ⟨none, none, .store 1 false (.tmp 43) (.tmp 42)⟩] []) (.seq (.reg [
  ⟨(some 44), none, .fieldAddr 6 6 (.tmp 9)⟩,
  ⟨none, none, .store 1 false (.tmp 44) (.cst (LV.bool true))⟩] []) (.seq (.reg [
  ⟨(some 45), none, .mov (.tmp 7)⟩,
  ⟨(some 46), none, .load 17 true (.tmp 9)⟩,
  ⟨(some 47), none, .bsl (LV.agg [(LV.int .i64 0), (LV.int .i64 0), (LV.int .i64 0), (LV.int .i64 0), (LV.int .i64 0), (LV.bool false), (LV.bool false), (LV.bytes [0, 0, 0, 0]), (LV.bytes [0, 0, 0, 0]), (LV.str []), (LV.str [])]) 1 [(0, (.tmp 46))]⟩,
  ⟨(some 48), none, .append 17 88 (.tmp 45) (.tmp 47)⟩,
  ⟨(some 7), none, .mov (.tmp 48)⟩] []) (.seq (.reg [
  ⟨(some 49), none, .fieldAddr 4 4 (.tmp 8)⟩,
  ⟨(some 50), none, .load 1 false (.tmp 49)⟩,
  ⟨(some 51), none, .mov (.tmp 6)⟩,
  ⟨(some 52), none, .bin .add (.tmp 50) (.tmp 51)⟩,
  ⟨(some 53), none, .fieldAddr 4 4 (.tmp 8)⟩,
  ⟨none, none, .store 1 false (.tmp 53) (.tmp 52)⟩] []) (.reg [
  ⟨(some 54), none, .fieldAddr 10 16 (.tmp 8)⟩,
  ⟨(some 55), none, .load 1 false (.tmp 54)⟩,
  ⟨(some 56), none, .mov (.tmp 6)⟩,
  ⟨(some 57), none, .slc 0 (.tmp 55) (some (.tmp 56)) none⟩,
  ⟨(some 58), none, .fieldAddr 10 16 (.tmp 8)⟩,
  ⟨none, none, .store 1 false (.tmp 58) (.tmp 57)⟩] [])))))))))) (.seq (.reg [
  ⟨(some 59), none, .mov (.tmp 7)⟩,
  ⟨(some 60), none, .load 17 true (.tmp 8)⟩,
  ⟨(some 61), none, .bsl (LV.agg [(LV.int .i64 0), (LV.int .i64 0), (LV.int .i64 0), (LV.int .i64 0), (LV.int .i64 0), (LV.bool false), (LV.bool false), (LV.bytes [0, 0, 0, 0]), (LV.bytes [0, 0, 0, 0]), (LV.str []), (LV.str [])]) 1 [(0, (.tmp 60))]⟩,
  ⟨(some 62), none, .append 17 88 (.tmp 59) (.tmp 61)⟩,
  ⟨(some 4), none, .mov (.tmp 62)⟩,
  ⟨(some 5), none, .mov (.cst (LV.int .i64 0))⟩] []) .ret))))))))), [.tmp 4, .tmp 5]⟩
/-- interpreter/interpreterref17.Head4 -/
def c_interpreterref17_Head4 : MFn := ⟨1, 7, (.seq (.reg [
  ⟨(some 1), none, .box (.tmp 0)⟩,
  ⟨(some 2), none, .mov (.cst (LV.int .i64 0))⟩] []) (.seq (.reg [
  ⟨(some 3), none, .fieldAddr 9 15 (.tmp 1)⟩,
  ⟨(some 4), none, .load 1 false (.tmp 3)⟩,
  ⟨(some 5), none, .len true (.tmp 4)⟩,
  ⟨(some 6), none, .bin .add (.cst (LV.int .i64 20)) (.tmp 5)⟩,
  ⟨(some 2), none, .mov (.tmp 6)⟩] []) .ret)), [.tmp 2]⟩
/-- interpreter/interpreterlaw17.Great6 -/
def c_interpreterlaw17_Great6 : MFn := ⟨1, 29, (.seq (.reg [
  ⟨(some 1), none, .box (.tmp 0)⟩,
  ⟨(some 2), none, .mov (.cst (LV.bool false))⟩] []) (.seq (.seq (.reg [
  ⟨(some 4), none, .fieldAddr 5 35 (.tmp 1)⟩,
  ⟨(some 5), none, .load 1 false (.tmp 4)⟩,
  ⟨(some 6), none, .len false (.tmp 5)⟩,
  ⟨(some 7), none, .bin .gtr (.tmp 6) (.cst (LV.int .i64 20))⟩,
  ⟨(some 8), none, .mov (.tmp 7)⟩,
  ⟨(some 9), (some (8, false)), .fieldAddr 11 41 (.tmp 1)⟩,
  ⟨(some 10), (some (8, false)), .load 1 false (.tmp 9)⟩,
  ⟨(some 11), (some (8, false)), .len true (.tmp 10)⟩,
  ⟨(some 12), (some (8, false)), .bin .gtr (.tmp 11) (.cst (LV.int .i64 4000))⟩,
  ⟨(some 13), none, .pick (.tmp 8) (.cst (LV.bool true)) (.tmp 12)⟩] []) (.cond (.tmp 13) (.seq (.reg [
  ⟨(some 2), none, .mov (.cst (LV.bool true))⟩] []) .ret) .skip)) (.seq (.seq (.reg [
  ⟨(some 3), none, .mov (.cst (LV.int .i64 0))⟩] []) (.block 0 (.loop [2, 3] [14, 15, 16, 17, 18, 21, 22, 23, 24, 25, 26, 27, 28, 19, 20] (.seq (.seq (.reg [
  ⟨(some 14), none, .mov (.tmp 3)⟩,
  ⟨(some 15), none, .fieldAddr 5 35 (.tmp 1)⟩,
  ⟨(some 16), none, .load 1 false (.tmp 15)⟩,
  ⟨(some 17), none, .len false (.tmp 16)⟩,
  ⟨(some 18), none, .bin .lss (.tmp 14) (.tmp 17)⟩] []) (.cond (.tmp 18) .skip (.exit 0))) (.seq (.block 1 (.seq (.reg [
  ⟨(some 21), none, .fieldAddr 5 35 (.tmp 1)⟩,
  ⟨(some 22), none, .load 1 false (.tmp 21)⟩,
  ⟨(some 23), none, .mov (.tmp 3)⟩,
  ⟨(some 24), none, .idxAddr none 2 (.tmp 22) (.tmp 23)⟩,
  ⟨(some 25), none, .fieldAddr 1 1 (.tmp 24)⟩,
  ⟨(some 26), none, .load 1 false (.tmp 25)⟩,
  ⟨(some 27), none, .len true (.tmp 26)⟩,
  ⟨(some 28), none, .bin .gtr (.tmp 27) (.cst (LV.int .i64 2100))⟩] []) (.cond (.tmp 28) (.seq (.reg [
  ⟨(some 2), none, .mov (.cst (LV.bool true))⟩] []) .ret) .skip))) (.reg [
  ⟨(some 19), none, .mov (.tmp 3)⟩,
  ⟨(some 20), none, .bin .add (.tmp 19) (.cst (LV.int .i64 1))⟩,
  ⟨(some 3), none, .mov (.tmp 20)⟩] [])))))) (.seq (.reg [
  ⟨(some 2), none, .mov (.cst (LV.bool false))⟩] []) .ret)))), [.tmp 2]⟩
/-- interpreter/refrag.Cut6 -/
def c_refrag_Cut6 : MFn := ⟨3, 102, (.seq (.reg [
  ⟨(some 3), none, .boxM (.tmp 0)⟩,
  ⟨(some 6), none, .mov (.cst LV.nils)⟩,
  ⟨(some 7), none, .mov (.cst (LV.int .i64 0))⟩] []) (.seq (.reg [
  ⟨(some 15), none, .load 42 true (.tmp 3)⟩,
  ⟨(some 16), none, .call id_refrag_Len6 [(.tmp 15)]⟩,
  ⟨(some 8), none, .mov (.tmp 16)⟩] []) (.seq (.block 0 (.seq (.reg [
  ⟨(some 18), none, .mov (.tmp 8)⟩,
  ⟨(some 19), none, .bin .eql (.tmp 18) (.cst (LV.int .i64 0))⟩,
  ⟨(some 20), none, .mov (.tmp 19)⟩,
  ⟨(some 21), (some (20, false)), .mov (.tmp 1)⟩,
  ⟨(some 22), (some (20, false)), .bin .lss (.tmp 21) (.cst (LV.int .i64 1280))⟩,
  ⟨(some 23), none, .pick (.tmp 20) (.cst (LV.bool true)) (.tmp 22)⟩,
  ⟨(some 24), none, .mov (.tmp 23)⟩,
  ⟨(some 25), (some (24, false)), .mov (.tmp 1)⟩,
  ⟨(some 26), (some (24, false)), .bin .gtr (.tmp 25) (.cst (LV.int .i64 65535))⟩,
  ⟨(some 27), none, .pick (.tmp 24) (.cst (LV.bool true)) (.tmp 26)⟩,
  ⟨(some 17), none, .mov (.tmp 27)⟩] []) (.cond (.tmp 17) (.seq (.reg [
  ⟨(some 6), none, .mov (.cst LV.nils)⟩,
  ⟨(some 7), none, .mov (.cst (LV.int .i64 1))⟩] []) .ret) (.seq (.reg [
  ⟨(some 29), none, .mov (.tmp 8)⟩,
  ⟨(some 30), none, .mov (.tmp 1)⟩,
  ⟨(some 31), none, .bin .leq (.tmp 29) (.tmp 30)⟩,
  ⟨(some 28), none, .mov (.tmp 31)⟩] []) (.cond (.tmp 28) (.seq (.reg [
  ⟨(some 32), none, .load 42 true (.tmp 3)⟩,
  ⟨(some 33), none, .bsl (LV.agg [(LV.int .i64 0), (LV.int .i64 0), (LV.int .i64 0), (LV.bytes [0, 0, 0, 0, 0, 0, 0, 0, 0, 0, 0, 0, 0, 0, 0, 0]), (LV.bytes [0, 0, 0, 0, 0, 0, 0, 0, 0, 0, 0, 0, 0, 0, 0, 0]), LV.nils, (LV.bool false), (LV.int .u32 0), (LV.int .i64 0), (LV.bool false), (LV.int .i64 0), (LV.str [])]) 1 [(0, (.tmp 32))]⟩,
  ⟨(some 6), none, .mov (.tmp 33)⟩,
  ⟨(some 7), none, .mov (.cst (LV.int .i64 0))⟩] []) .ret) .skip))))) (.seq (.reg [
  ⟨(some 34), none, .mov (.tmp 8)⟩,
  ⟨(some 35), none, .fieldAddr 11 41 (.tmp 3)⟩,
  ⟨(some 36), none, .load 1 false (.tmp 35)⟩,
  ⟨(some 37), none, .len true (.tmp 36)⟩,
  ⟨(some 38), none, .bin .sub (.tmp 34) (.tmp 37)⟩,
  ⟨(some 9), none, .mov (.tmp 38)⟩] []) (.seq (.seq (.reg [
  ⟨(some 39), none, .fieldAddr 6 36 (.tmp 3)⟩,
  ⟨(some 40), none, .load 1 false (.tmp 39)⟩,
  ⟨(some 41), none, .un .not (.tmp 40)⟩] []) (.cond (.tmp 41) (.seq (.reg [
  ⟨(some 42), none, .mov (.tmp 9)⟩,
  ⟨(some 43), none, .bin .add (.tmp 42) (.cst (LV.int .i64 8))⟩,
  ⟨(some 9), none, .mov (.tmp 43)⟩] []) (.reg [
  ⟨(some 44), none, .mov (.tmp 2)⟩,
  ⟨(some 45), none, .fieldAddr 7 37 (.tmp 3)⟩,
  ⟨none, none, .store 1 false (.tmp 45) (.tmp 44)⟩] [])) .skip)) (.seq (.reg [
  ⟨(some 46), none, .mov (.tmp 1)⟩,
  ⟨(some 47), none, .mov (.tmp 9)⟩,
  ⟨(some 48), none, .bin .sub (.tmp 46) (.tmp 47)⟩,
  ⟨(some 49), none, .bin .quo (.tmp 48) (.cst (LV.int .i64 8))⟩,
  ⟨(some 50), none, .bin .mul (.tmp 49) (.cst (LV.int .i64 8))⟩,
  ⟨(some 10), none, .mov (.tmp 50)⟩] []) (.seq (.seq (.reg [
  ⟨(some 51), none, .mov (.tmp 1)⟩,
  ⟨(some 52), none, .mov (.tmp 9)⟩,
  ⟨(some 53), none, .bin .sub (.tmp 51) (.tmp 52)⟩,
  ⟨(some 54), none, .bin .lss (.tmp 53) (.cst (LV.int .i64 8))⟩] []) (.cond (.tmp 54) (.seq (.reg [
  ⟨(some 6), none, .mov (.cst LV.nils)⟩,
  ⟨(some 7), none, .mov (.cst (LV.int .i64 13))⟩] []) .ret) .skip)) (.seq (.reg [
  ⟨(some 11), none, .nilT 42⟩] []) (.seq (.seq (.reg [
  ⟨(some 55), none, .fieldAddr 11 41 (.tmp 3)⟩,
  ⟨(some 56), none, .load 1 false (.tmp 55)⟩,
  ⟨(some 57), none, .len true (.tmp 56)⟩,
  ⟨(some 58), none, .mov (.tmp 10)⟩,
  ⟨(some 59), none, .call id_refrag_pieces [(.tmp 57), (.tmp 58)]⟩,
  ⟨(some 60), none, .len false (.tmp 59)⟩,
  ⟨(some 61), none, .mov (.cst (LV.int .i64 0))⟩] []) (.block 1 (.loop [11, 61] [62, 63, 64, 13, 65, 14, 66, 67, 68, 69, 70, 71, 72, 73, 74, 75, 76, 77, 78, 79, 80, 81, 82, 83, 84, 85, 86, 87, 88, 89, 90, 91, 92, 93, 94, 95, 96, 97, 98, 99, 100] (.seq (.reg [
  ⟨(some 62), none, .bin .lss (.tmp 61) (.tmp 60)⟩] []) (.seq (.cond (.tmp 62) .skip (.exit 1)) (.seq (.block 2 (.seq (.reg [
  ⟨(some 63), none, .idxAddr none 2 (.tmp 59) (.tmp 61)⟩,
  ⟨(some 64), none, .load 2 true (.tmp 63)⟩,
  ⟨(some 13), none, .alloc (LV.agg [(LV.int .i64 0), (LV.int .i64 0)])⟩,
  ⟨none, none, .store 2 true (.tmp 13) (.tmp 64)⟩] []) (.seq (.reg [
  ⟨(some 65), none, .load 42 true (.tmp 3)⟩,
  ⟨(some 14), none, .alloc (LV.agg [(LV.int .i64 0), (LV.int .i64 0), (LV.int .i64 0), (LV.bytes [0, 0, 0, 0, 0, 0, 0, 0, 0, 0, 0, 0, 0, 0, 0, 0]), (LV.bytes [0, 0, 0, 0, 0, 0, 0, 0, 0, 0, 0, 0, 0, 0, 0, 0]), LV.nils, (LV.bool false), (LV.int .u32 0), (LV.int .i64 0), (LV.bool false), (LV.int .i64 0), (LV.str [])])⟩,
  ⟨none, none, .store 42 true (.tmp 14) (.tmp 65)⟩] []) (.seq (.reg [
  ⟨(some 66), none, .fieldAddr 6 36 (.tmp 14)⟩,
  ⟨none, none, .store 1 false (.tmp 66) (.cst (LV.bool true))⟩] []) (.seq (.reg [
  ⟨(some 67), none, .fieldAddr 5 35 (.tmp 3)⟩,
  ⟨(some 68), none, .load 1 false (.tmp 67)⟩,
  ⟨(some 69), none, .call id_slices_Clone_api_Ext_api_Ext [(.tmp 68)]⟩,
  ⟨(some 70), none, .fieldAddr 5 35 (.tmp 14)⟩,
  ⟨none, none, .store 1 false (.tmp 70) (.tmp 69)⟩] []) (.seq (.reg [
  ⟨(some 71), none, .fieldAddr 8 38 (.tmp 3)⟩,
  ⟨(some 72), none, .load 1 false (.tmp 71)⟩,
  ⟨(some 73), none, .fieldAddr 0 0 (.tmp 13)⟩,
  ⟨(some 74), none, .load 1 false (.tmp 73)⟩,
  ⟨(some 75), none, .bin .add (.tmp 72) (.tmp 74)⟩,
  ⟨(some 76), none, .fieldAddr 11 41 (.tmp 3)⟩,
  ⟨(some 77), none, .load 1 false (.tmp 76)⟩,
  ⟨(some 78), none, .fieldAddr 0 0 (.tmp 13)⟩,
  ⟨(some 79), none, .load 1 false (.tmp 78)⟩,
  ⟨(some 80), none, .fieldAddr 1 1 (.tmp 13)⟩,
  ⟨(some 81), none, .load 1 false (.tmp 80)⟩,
  ⟨(some 82), none, .slc 0 (.tmp 77) (some (.tmp 79)) (some (.tmp 81))⟩,
  ⟨(some 83), none, .fieldAddr 9 39 (.tmp 3)⟩,
  ⟨(some 84), none, .load 1 false (.tmp 83)⟩,
  ⟨(some 85), none, .mov (.tmp 84)⟩,
  ⟨(some 86), (some (85, false)), .fieldAddr 1 1 (.tmp 13)⟩,
  ⟨(some 87), (some (85, false)), .load 1 false (.tmp 86)⟩,
  ⟨(some 88), (some (85, false)), .fieldAddr 11 41 (.tmp 3)⟩,
  ⟨(some 89), (some (85, false)), .load 1 false (.tmp 88)⟩,
  ⟨(some 90), (some (85, false)), .len true (.tmp 89)⟩,
  ⟨(some 91), (some (85, false)), .bin .lss (.tmp 87) (.tmp 90)⟩,
  ⟨(some 92), none, .pick (.tmp 85) (.cst (LV.bool true)) (.tmp 91)⟩,
  ⟨(some 93), none, .fieldAddr 8 38 (.tmp 14)⟩,
  ⟨none, none, .store 1 false (.tmp 93) (.tmp 75)⟩,
  ⟨(some 94), none, .fieldAddr 11 41 (.tmp 14)⟩,
  ⟨none, none, .store 1 false (.tmp 94) (.tmp 82)⟩,
  ⟨(some 95), none, .fieldAddr 9 39 (.tmp 14)⟩,
  ⟨none, none, .store 1 false (.tmp 95) (.tmp 92)⟩] [((.tmp 76), (.tmp 93)), ((.tmp 78), (.tmp 93)), ((.tmp 80), (.tmp 93)), ((.tmp 86), (.tmp 93)), ((.tmp 88), (.tmp 93)), ((.tmp 86), (.tmp 94)), ((.tmp 88), (.tmp 94))]) (.reg [
  ⟨(some 96), none, .mov (.tmp 11)⟩,
  ⟨(some 97), none, .load 42 true (.tmp 14)⟩,
  ⟨(some 98), none, .bsl (LV.agg [(LV.int .i64 0), (LV.int .i64 0), (LV.int .i64 0), (LV.bytes [0, 0, 0, 0, 0, 0, 0, 0, 0, 0, 0, 0, 0, 0, 0, 0]), (LV.bytes [0, 0, 0, 0, 0, 0, 0, 0, 0, 0, 0, 0, 0, 0, 0, 0]), LV.nils, (LV.bool false), (LV.int .u32 0), (LV.int .i64 0), (LV.bool false), (LV.int .i64 0), (LV.str [])]) 1 [(0, (.tmp 97))]⟩,
  ⟨(some 99), none, .append 42 128 (.tmp 96) (.tmp 98)⟩,
  ⟨(some 11), none, .mov (.tmp 99)⟩] []))))))) (.reg [
  ⟨(some 100), none, .bin .add (.tmp 61) (.cst (LV.int .i64 1))⟩,
  ⟨(some 61), none, .mov (.tmp 100)⟩] []))))))) (.seq (.reg [
  ⟨(some 101), none, .mov (.tmp 11)⟩,
  ⟨(some 6), none, .mov (.tmp 101)⟩,
  ⟨(some 7), none, .mov (.cst (LV.int .i64 0))⟩] []) .ret)))))))))), [.tmp 6, .tmp 7]⟩
/-- interpreter/ip6.Bytes -/
def c_ip6_Bytes : MFn := ⟨1, 98, (.seq (.reg [
  ⟨(some 1), none, .box (.tmp 0)⟩,
  ⟨(some 2), none, .mov (.cst (LV.str []))⟩,
  ⟨(some 3), none, .mov (.cst LV.nili)⟩] []) (.seq (.seq (.reg [
  ⟨(some 10), none, .load 42 true (.tmp 1)⟩,
  ⟨(some 11), none, .call id_ip6_why [(.tmp 10)]⟩,
  ⟨(some 4), none, .mov (.tmp 11)⟩] []) (.seq (.reg [
  ⟨(some 12), none, .mov (.tmp 4)⟩,
  ⟨(some 13), none, .bin .neq (.tmp 12) (.cst (LV.int .i64 0))⟩] []) (.cond (.tmp 13) (.seq (.reg [
  ⟨(some 14), none, .mov (.tmp 4)⟩,
  ⟨(some 15), none, .call id_ip6_fault [(.tmp 14)]⟩,
  ⟨(some 2), none, .mov (.cst (LV.str []))⟩,
  ⟨(some 3), none, .mov (.tmp 15)⟩] []) .ret) .skip))) (.seq (.reg [
  ⟨(some 16), none, .fieldAddr 10 40 (.tmp 1)⟩,
  ⟨(some 17), none, .load 1 false (.tmp 16)⟩,
  ⟨(some 18), none, .fieldAddr 11 41 (.tmp 1)⟩,
  ⟨(some 19), none, .load 1 false (.tmp 18)⟩,
  ⟨(some 5), none, .mov (.tmp 17)⟩,
  ⟨(some 6), none, .mov (.tmp 19)⟩] []) (.seq (.seq (.reg [
  ⟨(some 20), none, .fieldAddr 6 36 (.tmp 1)⟩,
  ⟨(some 21), none, .load 1 false (.tmp 20)⟩] []) (.cond (.tmp 21) (.seq (.reg [
  ⟨(some 22), none, .fieldAddr 8 38 (.tmp 1)⟩,
  ⟨(some 23), none, .load 1 false (.tmp 22)⟩,
  ⟨(some 7), none, .mov (.tmp 23)⟩] []) (.seq (.seq (.reg [
  ⟨(some 24), none, .fieldAddr 9 39 (.tmp 1)⟩,
  ⟨(some 25), none, .load 1 false (.tmp 24)⟩] []) (.cond (.tmp 25) (.reg [
  ⟨(some 26), none, .mov (.tmp 7)⟩,
  ⟨(some 27), none, .bin .add (.tmp 26) (.cst (LV.int .i64 1))⟩,
  ⟨(some 7), none, .mov (.tmp 27)⟩] []) .skip)) (.seq (.reg [
  ⟨(some 28), none, .mov (.tmp 5)⟩,
  ⟨(some 29), none, .call id_ip6_big [(.tmp 28), (.cst (LV.int .i64 1))]⟩,
  ⟨(some 30), none, .bin .add (.tmp 29) (.cst (LV.str [0]))⟩,
  ⟨(some 31), none, .mov (.tmp 7)⟩,
  ⟨(some 32), none, .call id_ip6_big [(.tmp 31), (.cst (LV.int .i64 2))]⟩,
  ⟨(some 33), none, .bin .add (.tmp 30) (.tmp 32)⟩,
  ⟨(some 34), none, .fieldAddr 7 37 (.tmp 1)⟩,
  ⟨(some 35), none, .load 1 false (.tmp 34)⟩,
  ⟨(some 36), none, .conv .i64 (.tmp 35)⟩,
  ⟨(some 37), none, .call id_ip6_big [(.tmp 36), (.cst (LV.int .i64 4))]⟩,
  ⟨(some 38), none, .bin .add (.tmp 33) (.tmp 37)⟩,
  ⟨(some 39), none, .mov (.tmp 6)⟩,
  ⟨(some 40), none, .bin .add (.tmp 38) (.tmp 39)⟩,
  ⟨(some 6), none, .mov (.tmp 40)⟩] []) (.reg [
  ⟨(some 5), none, .mov (.cst (LV.int .i64 44))⟩] [])))) .skip)) (.seq (.seq (.reg [
  ⟨(some 41), none, .fieldAddr 5 35 (.tmp 1)⟩,
  ⟨(some 42), none, .load 1 false (.tmp 41)⟩,
  ⟨(some 43), none, .len false (.tmp 42)⟩,
  ⟨(some 44), none, .bin .sub (.tmp 43) (.cst (LV.int .i64 1))⟩,
  ⟨(some 8), none, .mov (.tmp 44)⟩] []) (.block 0 (.loop [6, 5, 8] [45, 46, 49, 50, 51, 52, 53, 9, 54, 55, 56, 57, 58, 59, 60, 61, 62, 63, 64, 65, 66, 67, 68, 47, 48] (.seq (.seq (.reg [
  ⟨(some 45), none, .mov (.tmp 8)⟩,
  ⟨(some 46), none, .bin .geq (.tmp 45) (.cst (LV.int .i64 0))⟩] []) (.cond (.tmp 46) .skip (.exit 0))) (.seq (.block 1 (.seq (.reg [
  ⟨(some 49), none, .fieldAddr 5 35 (.tmp 1)⟩,
  ⟨(some 50), none, .load 1 false (.tmp 49)⟩,
  ⟨(some 51), none, .mov (.tmp 8)⟩,
  ⟨(some 52), none, .idxAddr none 2 (.tmp 50) (.tmp 51)⟩,
  ⟨(some 53), none, .load 2 true (.tmp 52)⟩,
  ⟨(some 9), none, .alloc (LV.agg [(LV.int .i64 0), (LV.str [])])⟩,
  ⟨none, none, .store 2 true (.tmp 9) (.tmp 53)⟩] []) (.seq (.reg [
  ⟨(some 54), none, .mov (.tmp 5)⟩,
  ⟨(some 55), none, .call id_ip6_big [(.tmp 54), (.cst (LV.int .i64 1))]⟩,
  ⟨(some 56), none, .fieldAddr 1 1 (.tmp 9)⟩,
  ⟨(some 57), none, .load 1 false (.tmp 56)⟩,
  ⟨(some 58), none, .len true (.tmp 57)⟩,
  ⟨(some 59), none, .bin .quo (.tmp 58) (.cst (LV.int .i64 8))⟩,
  ⟨(some 60), none, .call id_ip6_big [(.tmp 59), (.cst (LV.int .i64 1))]⟩,
  ⟨(some 61), none, .bin .add (.tmp 55) (.tmp 60)⟩,
  ⟨(some 62), none, .fieldAddr 1 1 (.tmp 9)⟩,
  ⟨(some 63), none, .load 1 false (.tmp 62)⟩,
  ⟨(some 64), none, .bin .add (.tmp 61) (.tmp 63)⟩,
  ⟨(some 65), none, .mov (.tmp 6)⟩,
  ⟨(some 66), none, .bin .add (.tmp 64) (.tmp 65)⟩,
  ⟨(some 6), none, .mov (.tmp 66)⟩] []) (.reg [
  ⟨(some 67), none, .fieldAddr 0 0 (.tmp 9)⟩,
  ⟨(some 68), none, .load 1 false (.tmp 67)⟩,
  ⟨(some 5), none, .mov (.tmp 68)⟩] [])))) (.reg [
  ⟨(some 47), none, .mov (.tmp 8)⟩,
  ⟨(some 48), none, .bin .sub (.tmp 47) (.cst (LV.int .i64 1))⟩,
  ⟨(some 8), none, .mov (.tmp 48)⟩] [])))))) (.seq (.reg [
  ⟨(some 69), none, .fieldAddr 0 0 (.tmp 1)⟩,
  ⟨(some 70), none, .load 1 false (.tmp 69)⟩,
  ⟨(some 71), none, .bin .shl (.tmp 70) (.cst (LV.int .u64 20))⟩,
  ⟨(some 72), none, .bin .or (.cst (LV.int .i64 1610612736)) (.tmp 71)⟩,
  ⟨(some 73), none, .fieldAddr 1 1 (.tmp 1)⟩,
  ⟨(some 74), none, .load 1 false (.tmp 73)⟩,
  ⟨(some 75), none, .bin .or (.tmp 72) (.tmp 74)⟩,
  ⟨(some 76), none, .call id_ip6_big [(.tmp 75), (.cst (LV.int .i64 4))]⟩,
  ⟨(some 77), none, .mov (.tmp 6)⟩,
  ⟨(some 78), none, .len true (.tmp 77)⟩,
  ⟨(some 79), none, .call id_ip6_big [(.tmp 78), (.cst (LV.int .i64 2))]⟩,
  ⟨(some 80), none, .bin .add (.tmp 76) (.tmp 79)⟩,
  ⟨(some 81), none, .mov (.tmp 5)⟩,
  ⟨(some 82), none, .call id_ip6_big [(.tmp 81), (.cst (LV.int .i64 1))]⟩,
  ⟨(some 83), none, .bin .add (.tmp 80) (.tmp 82)⟩,
  ⟨(some 84), none, .fieldAddr 2 2 (.tmp 1)⟩,
  ⟨(some 85), none, .load 1 false (.tmp 84)⟩,
  ⟨(some 86), none, .call id_ip6_big [(.tmp 85), (.cst (LV.int .i64 1))]⟩,
  ⟨(some 87), none, .bin .add (.tmp 83) (.tmp 86)⟩,
  ⟨(some 88), none, .fieldAddr 3 3 (.tmp 1)⟩,
  ⟨(some 89), none, .slcArr 16 (.tmp 88) none none⟩,
  ⟨(some 90), none, .b2s (.tmp 89)⟩,
  ⟨(some 91), none, .bin .add (.tmp 87) (.tmp 90)⟩,
  ⟨(some 92), none, .fieldAddr 4 19 (.tmp 1)⟩,
  ⟨(some 93), none, .slcArr 16 (.tmp 92) none none⟩,
  ⟨(some 94), none, .b2s (.tmp 93)⟩,
  ⟨(some 95), none, .bin .add (.tmp 91) (.tmp 94)⟩,
  ⟨(some 96), none, .mov (.tmp 6)⟩,
  ⟨(some 97), none, .bin .add (.tmp 95) (.tmp 96)⟩,
  ⟨(some 2), none, .mov (.tmp 97)⟩,
  ⟨(some 3), none, .mov (.cst LV.nili)⟩] []) .ret)))))), [.tmp 2, .tmp 3]⟩
/-- interpreter/refrag.Len6 -/
def c_refrag_Len6 : MFn := ⟨1, 14, (.seq (.reg [
  ⟨(some 1), none, .box (.tmp 0)⟩,
  ⟨(some 2), none, .mov (.cst (LV.int .i64 0))⟩] []) (.seq (.reg [
  ⟨(some 6), none, .load 42 true (.tmp 1)⟩,
  ⟨(some 7), none, .call id_ip6_Bytes [(.tmp 6)]⟩,
  ⟨(some 5), none, .mov (.tmp 7)⟩,
  ⟨(some 8), none, .extract (.tmp 5) 0⟩,
  ⟨(some 9), none, .extract (.tmp 5) 1⟩,
  ⟨(some 3), none, .mov (.tmp 8)⟩,
  ⟨(some 4), none, .mov (.tmp 9)⟩] []) (.seq (.seq (.reg [
  ⟨(some 10), none, .mov (.tmp 4)⟩,
  ⟨(some 11), none, .eqNil 1 true (.tmp 10)⟩] []) (.cond (.tmp 11) (.seq (.reg [
  ⟨(some 2), none, .mov (.cst (LV.int .i64 0))⟩] []) .ret) .skip)) (.seq (.reg [
  ⟨(some 12), none, .mov (.tmp 3)⟩,
  ⟨(some 13), none, .len true (.tmp 12)⟩,
  ⟨(some 2), none, .mov (.tmp 13)⟩] []) .ret)))), [.tmp 2]⟩
/-- interpreter/interpreterref17.Cut6 -/
def c_interpreterref17_Cut6 : MFn := ⟨3, 71, (.seq (.reg [
  ⟨(some 3), none, .box (.tmp 0)⟩,
  ⟨(some 6), none, .mov (.cst LV.nils)⟩,
  ⟨(some 7), none, .mov (.cst (LV.int .i64 0))⟩] []) (.seq (.seq (.reg [
  ⟨(some 12), none, .mov (.tmp 1)⟩,
  ⟨(some 13), none, .bin .lss (.tmp 12) (.cst (LV.int .i64 1280))⟩,
  ⟨(some 14), none, .mov (.tmp 13)⟩,
  ⟨(some 15), (some (14, false)), .mov (.tmp 1)⟩,
  ⟨(some 16), (some (14, false)), .bin .gtr (.tmp 15) (.cst (LV.int .i64 65535))⟩,
  ⟨(some 17), none, .pick (.tmp 14) (.cst (LV.bool true)) (.tmp 16)⟩] []) (.cond (.tmp 17) (.seq (.reg [
  ⟨(some 6), none, .mov (.cst LV.nils)⟩,
  ⟨(some 7), none, .mov (.cst (LV.int .i64 1))⟩] []) .ret) .skip)) (.seq (.seq (.reg [
  ⟨(some 18), none, .load 42 true (.tmp 3)⟩,
  ⟨(some 19), none, .call id_interpreterref17_Head6 [(.tmp 18)]⟩,
  ⟨(some 20), none, .fieldAddr 11 41 (.tmp 3)⟩,
  ⟨(some 21), none, .load 1 false (.tmp 20)⟩,
  ⟨(some 22), none, .len true (.tmp 21)⟩,
  ⟨(some 23), none, .bin .add (.tmp 19) (.tmp 22)⟩,
  ⟨(some 24), none, .mov (.tmp 1)⟩,
  ⟨(some 25), none, .bin .leq (.tmp 23) (.tmp 24)⟩] []) (.cond (.tmp 25) (.seq (.reg [
  ⟨(some 26), none, .load 42 true (.tmp 3)⟩,
  ⟨(some 27), none, .bsl (LV.agg [(LV.int .i64 0), (LV.int .i64 0), (LV.int .i64 0), (LV.bytes [0, 0, 0, 0, 0, 0, 0, 0, 0, 0, 0, 0, 0, 0, 0, 0]), (LV.bytes [0, 0, 0, 0, 0, 0, 0, 0, 0, 0, 0, 0, 0, 0, 0, 0]), LV.nils, (LV.bool false), (LV.int .u32 0), (LV.int .i64 0), (LV.bool false), (LV.int .i64 0), (LV.str [])]) 1 [(0, (.tmp 26))]⟩,
  ⟨(some 6), none, .mov (.tmp 27)⟩,
  ⟨(some 7), none, .mov (.cst (LV.int .i64 0))⟩] []) .ret) .skip)) (.seq (.reg [
  ⟨(some 28), none, .load 42 true (.tmp 3)⟩,
  ⟨(some 8), none, .alloc (LV.agg [(LV.int .i64 0), (LV.int .i64 0), (LV.int .i64 0), (LV.bytes [0, 0, 0, 0, 0, 0, 0, 0, 0, 0, 0, 0, 0, 0, 0, 0]), (LV.bytes [0, 0, 0, 0, 0, 0, 0, 0, 0, 0, 0, 0, 0, 0, 0, 0]), LV.nils, (LV.bool false), (LV.int .u32 0), (LV.int .i64 0), (LV.bool false), (LV.int .i64 0), (LV.str [])])⟩,
  ⟨none, none, .store 42 true (.tmp 8) (.tmp 28)⟩] []) (.seq (.seq (.reg [
  ⟨(some 29), none, .fieldAddr 6 36 (.tmp 3)⟩,
  ⟨(some 30), none, .load 1 false (.tmp 29)⟩,
  ⟨(some 31), none, .un .not (.tmp 30)⟩] []) (.cond (.tmp 31) (.seq (.reg [
  ⟨(some 32), none, .fieldAddr 6 36 (.tmp 8)⟩,
  ⟨none, none, .store 1 false (.tmp 32) (.cst (LV.bool true))⟩] []) (.reg [
  ⟨(some 33), none, .mov (.tmp 2)⟩,
  ⟨(some 34), none, .fieldAddr 7 37 (.tmp 8)⟩,
  ⟨none, none, .store 1 false (.tmp 34) (.tmp 33)⟩] [])) .skip)) (.seq (.reg [
  ⟨(some 35), none, .mov (.tmp 1)⟩,
  ⟨(some 36), none, .load 42 true (.tmp 8)⟩,
  ⟨(some 37), none, .call id_interpreterref17_Head6 [(.tmp 36)]⟩,
  ⟨(some 38), none, .call id_interpreterref17_Room [(.tmp 35), (.tmp 37)]⟩,
  ⟨(some 9), none, .mov (.tmp 38)⟩] []) (.seq (.seq (.reg [
  ⟨(some 39), none, .mov (.tmp 9)⟩,
  ⟨(some 40), none, .bin .eql (.tmp 39) (.cst (LV.int .i64 0))⟩] []) (.cond (.tmp 40) (.seq (.reg [
  ⟨(some 6), none, .mov (.cst LV.nils)⟩,
  ⟨(some 7), none, .mov (.cst (LV.int .i64 13))⟩] []) .ret) .skip)) (.seq (.reg [
  ⟨(some 10), none, .nilT 42⟩] []) (.seq (.block 0 (.loop [10] [41, 42, 43, 44, 45, 46, 11, 47, 48, 49, 50, 51, 52, 53, 54, 55, 56, 57, 58, 59, 60, 61, 62, 63, 64, 65, 66] (.seq (.seq (.reg [
  ⟨(some 41), none, .fieldAddr 11 41 (.tmp 8)⟩,
  ⟨(some 42), none, .load 1 false (.tmp 41)⟩,
  ⟨(some 43), none, .len true (.tmp 42)⟩,
  ⟨(some 44), none, .mov (.tmp 9)⟩,
  ⟨(some 45), none, .bin .gtr (.tmp 43) (.tmp 44)⟩] []) (.cond (.tmp 45) .skip (.exit 0))) (.block 1 (.seq (.reg [
  ⟨(some 46), none, .load 42 true (.tmp 8)⟩,
  ⟨(some 11), none, .alloc (LV.agg [(LV.int .i64 0), (LV.int .i64 0), (LV.int .i64 0), (LV.bytes [0, 0, 0, 0, 0, 0, 0, 0, 0, 0, 0, 0, 0, 0, 0, 0]), (LV.bytes [0, 0, 0, 0, 0, 0, 0, 0, 0, 0, 0, 0, 0, 0, 0, 0]), LV.nils, (LV.bool false), (LV.int .u32 0), (LV.int .i64 0), (LV.bool false), (LV.int .i64 0), (LV.str [])])⟩,
  ⟨none, none, .store 42 true (.tmp 11) (.tmp 46)⟩] []) (.seq (.reg [
  ⟨(some 47), none, .fieldAddr 11 41 (.tmp 8)⟩,
  ⟨(some 48), none, .load 1 false (.tmp 47)⟩,
  ⟨(some 49), none, .mov (.tmp 9)⟩,
  ⟨(some 50), none, .slc 0 (.tmp 48) none (some (.tmp 49))⟩,
  ⟨(some 51), none, .fieldAddr 11 41 (.tmp 11)⟩,
  ⟨none, none, .store 1 false (.tmp 51) (.tmp 50)⟩] []) (.seq (.reg [
  ⟨(some 52), none, .fieldAddr 9 39 (.tmp 11)⟩,
  ⟨none, none, .store 1 false (.tmp 52) (.cst (LV.bool true))⟩] []) (.seq (.reg [
  ⟨(some 53), none, .mov (.tmp 10)⟩,
  ⟨(some 54), none, .load 42 true (.tmp 11)⟩,
  ⟨(some 55), none, .bsl (LV.agg [(LV.int .i64 0), (LV.int .i64 0), (LV.int .i64 0), (LV.bytes [0, 0, 0, 0, 0, 0, 0, 0, 0, 0, 0, 0, 0, 0, 0, 0]), (LV.bytes [0, 0, 0, 0, 0, 0, 0, 0, 0, 0, 0, 0, 0, 0, 0, 0]), LV.nils, (LV.bool false), (LV.int .u32 0), (LV.int .i64 0), (LV.bool false), (LV.int .i64 0), (LV.str [])]) 1 [(0, (.tmp 54))]⟩,
  ⟨(some 56), none, .append 42 128 (.tmp 53) (.tmp 55)⟩,
  ⟨(some 10), none, .mov (.tmp 56)⟩] []) (.seq (.reg [
  ⟨(some 57), none, .fieldAddr 8 38 (.tmp 8)⟩,
  ⟨(some 58), none, .load 1 false (.tmp 57)⟩,
  ⟨(some 59), none, .mov (.tmp 9)⟩,
  ⟨(some 60), none, .bin .add (.tmp 58) (.tmp 59)⟩,
  ⟨(some 61), none, .fieldAddr 8 38 (.tmp 8)⟩,
  ⟨none, none, .store 1 false (.tmp 61) (.tmp 60)⟩] []) (.reg [
  ⟨(some 62), none, .fieldAddr 11 41 (.tmp 8)⟩,
  ⟨(some 63), none, .load 1 false (.tmp 62)⟩,
  ⟨(some 64), none, .mov (.tmp 9)⟩,
  ⟨(some 65), none, .slc 0 (.tmp 63) (some (.tmp 64)) none⟩,
  ⟨(some 66), none, .fieldAddr 11 41 (.tmp 8)⟩,
  ⟨none, none, .store 1 false (.tmp 66) (.tmp 65)⟩] [])))))))))) (.seq (.reg [
  ⟨(some 67), none, .mov (.tmp 10)⟩,
  ⟨(some 68), none, .load 42 true (.tmp 8)⟩,
  ⟨(some 69), none, .bsl (LV.agg [(LV.int .i64 0), (LV.int .i64 0), (LV.int .i64 0), (LV.bytes [0, 0, 0, 0, 0, 0, 0, 0, 0, 0, 0, 0, 0, 0, 0, 0]), (LV.bytes [0, 0, 0, 0, 0, 0, 0, 0, 0, 0, 0, 0, 0, 0, 0, 0]), LV.nils, (LV.bool false), (LV.int .u32 0), (LV.int .i64 0), (LV.bool false), (LV.int .i64 0), (LV.str [])]) 1 [(0, (.tmp 68))]⟩,
  ⟨(some 70), none, .append 42 128 (.tmp 67) (.tmp 69)⟩,
  ⟨(some 6), none, .mov (.tmp 70)⟩,
  ⟨(some 7), none, .mov (.cst (LV.int .i64 0))⟩] []) .ret)))))))))), [.tmp 6, .tmp 7]⟩
/-- interpreter/interpreterref17.Head6 -/
def c_interpreterref17_Head6 : MFn := ⟨1, 27, (.seq (.reg [
  ⟨(some 1), none, .box (.tmp 0)⟩,
  ⟨(some 2), none, .mov (.cst (LV.int .i64 0))⟩] []) (.seq (.reg [
  ⟨(some 3), none, .mov (.cst (LV.int .i64 40))⟩] []) (.seq (.seq (.reg [
  ⟨(some 4), none, .mov (.cst (LV.int .i64 0))⟩] []) (.block 0 (.loop [3, 4] [5, 6, 7, 8, 9, 12, 13, 14, 15, 16, 17, 18, 19, 20, 21, 10, 11] (.seq (.seq (.reg [
  ⟨(some 5), none, .mov (.tmp 4)⟩,
  ⟨(some 6), none, .fieldAddr 5 35 (.tmp 1)⟩,
  ⟨(some 7), none, .load 1 false (.tmp 6)⟩,
  ⟨(some 8), none, .len false (.tmp 7)⟩,
  ⟨(some 9), none, .bin .lss (.tmp 5) (.tmp 8)⟩] []) (.cond (.tmp 9) .skip (.exit 0))) (.seq (.block 1 (.reg [
  ⟨(some 12), none, .mov (.tmp 3)⟩,
  ⟨(some 13), none, .bin .add (.tmp 12) (.cst (LV.int .i64 2))⟩,
  ⟨(some 14), none, .fieldAddr 5 35 (.tmp 1)⟩,
  ⟨(some 15), none, .load 1 false (.tmp 14)⟩,
  ⟨(some 16), none, .mov (.tmp 4)⟩,
  ⟨(some 17), none, .idxAddr none 2 (.tmp 15) (.tmp 16)⟩,
  ⟨(some 18), none, .fieldAddr 1 1 (.tmp 17)⟩,
  ⟨(some 19), none, .load 1 false (.tmp 18)⟩,
  ⟨(some 20), none, .len true (.tmp 19)⟩,
  ⟨(some 21), none, .bin .add (.tmp 13) (.tmp 20)⟩,
  ⟨(some 3), none, .mov (.tmp 21)⟩] [])) (.reg [
  ⟨(some 10), none, .mov (.tmp 4)⟩,
  ⟨(some 11), none, .bin .add (.tmp 10) (.cst (LV.int .i64 1))⟩,
  ⟨(some 4), none, .mov (.tmp 11)⟩] [])))))) (.seq (.seq (.reg [
  ⟨(some 22), none, .fieldAddr 6 36 (.tmp 1)⟩,
  ⟨(some 23), none, .load 1 false (.tmp 22)⟩] []) (.cond (.tmp 23) (.reg [
  ⟨(some 24), none, .mov (.tmp 3)⟩,
  ⟨(some 25), none, .bin .add (.tmp 24) (.cst (LV.int .i64 8))⟩,
  ⟨(some 3), none, .mov (.tmp 25)⟩] []) .skip)) (.seq (.reg [
  ⟨(some 26), none, .mov (.tmp 3)⟩,
  ⟨(some 2), none, .mov (.tmp 26)⟩] []) .ret))))), [.tmp 2]⟩
/-- interpreter/interpreterlaw17.same6 -/
def c_interpreterlaw17_same6 : MFn := ⟨2, 106, (.seq (.reg [
  ⟨(some 2), none, .box (.tmp 0)⟩,
  ⟨(some 3), none, .box (.tmp 1)⟩,
  ⟨(some 4), none, .mov (.cst (LV.bool false))⟩] []) (.seq (.seq (.reg [
  ⟨(some 6), none, .fieldAddr 5 35 (.tmp 2)⟩,
  ⟨(some 7), none, .load 1 false (.tmp 6)⟩,
  ⟨(some 8), none, .len false (.tmp 7)⟩,
  ⟨(some 9), none, .fieldAddr 5 35 (.tmp 3)⟩,
  ⟨(some 10), none, .load 1 false (.tmp 9)⟩,
  ⟨(some 11), none, .len false (.tmp 10)⟩,
  ⟨(some 12), none, .bin .neq (.tmp 8) (.tmp 11)⟩] []) (.cond (.tmp 12) (.seq (.reg [
  ⟨(some 4), none, .mov (.cst (LV.bool false))⟩] []) .ret) .skip)) (.seq (.seq (.reg [
  ⟨(some 5), none, .mov (.cst (LV.int .i64 0))⟩] []) (.block 0 (.loop [4, 5] [13, 14, 15, 16, 17, 20, 21, 22, 23, 24, 25, 26, 27, 28, 29, 30, 18, 19] (.seq (.seq (.reg [
  ⟨(some 13), none, .mov (.tmp 5)⟩,
  ⟨(some 14), none, .fieldAddr 5 35 (.tmp 2)⟩,
  ⟨(some 15), none, .load 1 false (.tmp 14)⟩,
  ⟨(some 16), none, .len false (.tmp 15)⟩,
  ⟨(some 17), none, .bin .lss (.tmp 13) (.tmp 16)⟩] []) (.cond (.tmp 17) .skip (.exit 0))) (.seq (.block 1 (.seq (.reg [
  ⟨(some 20), none, .fieldAddr 5 35 (.tmp 2)⟩,
  ⟨(some 21), none, .load 1 false (.tmp 20)⟩,
  ⟨(some 22), none, .mov (.tmp 5)⟩,
  ⟨(some 23), none, .idxAddr none 2 (.tmp 21) (.tmp 22)⟩,
  ⟨(some 24), none, .load 2 true (.tmp 23)⟩,
  ⟨(some 25), none, .fieldAddr 5 35 (.tmp 3)⟩,
  ⟨(some 26), none, .load 1 false (.tmp 25)⟩,
  ⟨(some 27), none, .mov (.tmp 5)⟩,
  ⟨(some 28), none, .idxAddr none 2 (.tmp 26) (.tmp 27)⟩,
  ⟨(some 29), none, .load 2 true (.tmp 28)⟩,
  ⟨(some 30), none, .eqS (Sh.agg [(Sh.int .i64), Sh.str]) true (.tmp 24) (.tmp 29)⟩] []) (.cond (.tmp 30) (.seq (.reg [
  ⟨(some 4), none, .mov (.cst (LV.bool false))⟩] []) .ret) .skip))) (.reg [
  ⟨(some 18), none, .mov (.tmp 5)⟩,
  ⟨(some 19), none, .bin .add (.tmp 18) (.cst (LV.int .i64 1))⟩,
  ⟨(some 5), none, .mov (.tmp 19)⟩] [])))))) (.seq (.reg [
  ⟨(some 31), none, .fieldAddr 0 0 (.tmp 2)⟩,
  ⟨(some 32), none, .load 1 false (.tmp 31)⟩,
  ⟨(some 33), none, .fieldAddr 0 0 (.tmp 3)⟩,
  ⟨(some 34), none, .load 1 false (.tmp 33)⟩,
  ⟨(some 35), none, .bin .eql (.tmp 32) (.tmp 34)⟩,
  ⟨(some 36), none, .mov (.tmp 35)⟩,
  ⟨(some 37), (some (36, true)), .fieldAddr 1 1 (.tmp 2)⟩,
  ⟨(some 38), (some (36, true)), .load 1 false (.tmp 37)⟩,
  ⟨(some 39), (some (36, true)), .fieldAddr 1 1 (.tmp 3)⟩,
  ⟨(some 40), (some (36, true)), .load 1 false (.tmp 39)⟩,
  ⟨(some 41), (some (36, true)), .bin .eql (.tmp 38) (.tmp 40)⟩,
  ⟨(some 42), none, .pick (.tmp 36) (.tmp 41) (.cst (LV.bool false))⟩,
  ⟨(some 43), none, .mov (.tmp 42)⟩,
  ⟨(some 44), (some (43, true)), .fieldAddr 2 2 (.tmp 2)⟩,
  ⟨(some 45), (some (43, true)), .load 1 false (.tmp 44)⟩,
  ⟨(some 46), (some (43, true)), .fieldAddr 2 2 (.tmp 3)⟩,
  ⟨(some 47), (some (43, true)), .load 1 false (.tmp 46)⟩,
  ⟨(some 48), (some (43, true)), .bin .eql (.tmp 45) (.tmp 47)⟩,
  ⟨(some 49), none, .pick (.tmp 43) (.tmp 48) (.cst (LV.bool false))⟩,
  ⟨(some 50), none, .mov (.tmp 49)⟩,
  ⟨(some 51), (some (50, true)), .fieldAddr 3 3 (.tmp 2)⟩,
  ⟨(some 52), (some (50, true)), .load 16 true (.tmp 51)⟩,
  ⟨(some 53), (some (50, true)), .fieldAddr 3 3 (.tmp 3)⟩,
  ⟨(some 54), (some (50, true)), .load 16 true (.tmp 53)⟩,
  ⟨(some 55), (some (50, true)), .eqS (Sh.bytes 16) false (.tmp 52) (.tmp 54)⟩,
  ⟨(some 56), none, .pick (.tmp 50) (.tmp 55) (.cst (LV.bool false))⟩,
  ⟨(some 57), none, .mov (.tmp 56)⟩,
  ⟨(some 58), (some (57, true)), .fieldAddr 4 19 (.tmp 2)⟩,
  ⟨(some 59), (some (57, true)), .load 16 true (.tmp 58)⟩,
  ⟨(some 60), (some (57, true)), .fieldAddr 4 19 (.tmp 3)⟩,
  ⟨(some 61), (some (57, true)), .load 16 true (.tmp 60)⟩,
  ⟨(some 62), (some (57, true)), .eqS (Sh.bytes 16) false (.tmp 59) (.tmp 61)⟩,
  ⟨(some 63), none, .pick (.tmp 57) (.tmp 62) (.cst (LV.bool false))⟩,
  ⟨(some 64), none, .mov (.tmp 63)⟩,
  ⟨(some 65), (some (64, true)), .fieldAddr 6 36 (.tmp 2)⟩,
  ⟨(some 66), (some (64, true)), .load 1 false (.tmp 65)⟩,
  ⟨(some 67), (some (64, true)), .fieldAddr 6 36 (.tmp 3)⟩,
  ⟨(some 68), (some (64, true)), .load 1 false (.tmp 67)⟩,
  ⟨(some 69), (some (64, true)), .eqB false (.tmp 66) (.tmp 68)⟩,
  ⟨(some 70), none, .pick (.tmp 64) (.tmp 69) (.cst (LV.bool false))⟩,
  ⟨(some 71), none, .mov (.tmp 70)⟩,
  ⟨(some 72), (some (71, true)), .fieldAddr 7 37 (.tmp 2)⟩,
  ⟨(some 73), (some (71, true)), .load 1 false (.tmp 72)⟩,
  ⟨(some 74), (some (71, true)), .fieldAddr 7 37 (.tmp 3)⟩,
  ⟨(some 75), (some (71, true)), .load 1 false (.tmp 74)⟩,
  ⟨(some 76), (some (71, true)), .bin .eql (.tmp 73) (.tmp 75)⟩,
  ⟨(some 77), none, .pick (.tmp 71) (.tmp 76) (.cst (LV.bool false))⟩,
  ⟨(some 78), none, .mov (.tmp 77)⟩,
  ⟨(some 79), (some (78, true)), .fieldAddr 8 38 (.tmp 2)⟩,
  ⟨(some 80), (some (78, true)), .load 1 false (.tmp 79)⟩,
  ⟨(some 81), (some (78, true)), .fieldAddr 8 38 (.tmp 3)⟩,
  ⟨(some 82), (some (78, true)), .load 1 false (.tmp 81)⟩,
  ⟨(some 83), (some (78, true)), .bin .eql (.tmp 80) (.tmp 82)⟩,
  ⟨(some 84), none, .pick (.tmp 78) (.tmp 83) (.cst (LV.bool false))⟩,
  ⟨(some 85), none, .mov (.tmp 84)⟩,
  ⟨(some 86), (some (85, true)), .fieldAddr 9 39 (.tmp 2)⟩,
  ⟨(some 87), (some (85, true)), .load 1 false (.tmp 86)⟩,
  ⟨(some 88), (some (85, true)), .fieldAddr 9 39 (.tmp 3)⟩,
  ⟨(some 89), (some (85, true)), .load 1 false (.tmp 88)⟩,
  ⟨(some 90), (some (85, true)), .eqB false (.tmp 87) (.tmp 89)⟩,
  ⟨(some 91), none, .pick (.tmp 85) (.tmp 90) (.cst (LV.bool false))⟩,
  ⟨(some 92), none, .mov (.tmp 91)⟩,
  ⟨(some 93), (some (92, true)), .fieldAddr 10 40 (.tmp 2)⟩,
  ⟨(some 94), (some (92, true)), .load 1 false (.tmp 93)⟩,
  ⟨(some 95), (some (92, true)), .fieldAddr 10 40 (.tmp 3)⟩,
  ⟨(some 96), (some (92, true)), .load 1 false (.tmp 95)⟩,
  ⟨(some 97), (some (92, true)), .bin .eql (.tmp 94) (.tmp 96)⟩,
  ⟨(some 98), none, .pick (.tmp 92) (.tmp 97) (.cst (LV.bool false))⟩,
  ⟨(some 99), none, .mov (.tmp 98)⟩,
  ⟨(some 100), (some (99, true)), .fieldAddr 11 41 (.tmp 2)⟩,
  ⟨(some 101), (some (99, true)), .load 1 false (.tmp 100)⟩,
  ⟨(some 102), (some (99, true)), .fieldAddr 11 41 (.tmp 3)⟩,
  ⟨(some 103), (some (99, true)), .load 1 false (.tmp 102)⟩,
  ⟨(some 104), (some (99, true)), .bin .eql (.tmp 101) (.tmp 103)⟩,
  ⟨(some 105), none, .pick (.tmp 99) (.tmp 104) (.cst (LV.bool false))⟩,
  ⟨(some 4), none, .mov (.tmp 105)⟩] []) .ret)))), [.tmp 4]⟩
/-- interpreter/interpreterlaw17.four -/
def c_interpreterlaw17_four : MFn := ⟨1, 9, (.seq (.reg [
  ⟨(some 2), none, .alloc (LV.agg [(LV.int .i64 0), (LV.int .i64 0), (LV.int .i64 0), (LV.int .i64 0), (LV.int .i64 0), (LV.bool false), (LV.bool false), (LV.bytes [0, 0, 0, 0]), (LV.bytes [0, 0, 0, 0]), (LV.str []), (LV.str [])])⟩] []) (.seq (.reg [
  ⟨(some 3), none, .build (LV.bytes [0, 0, 0, 0]) [(0, (.cst (LV.int .u8 1))), (1, (.cst (LV.int .u8 0))), (2, (.cst (LV.int .u8 0))), (3, (.cst (LV.int .u8 1)))]⟩,
  ⟨(some 4), none, .build (LV.bytes [0, 0, 0, 0]) [(0, (.cst (LV.int .u8 1))), (1, (.cst (LV.int .u8 0))), (2, (.cst (LV.int .u8 0))), (3, (.cst (LV.int .u8 2)))]⟩,
  ⟨(some 5), none, .mov (.tmp 0)⟩,
  ⟨(some 6), none, .mkSl (.tmp 5) (.tmp 5)⟩,
  ⟨(some 7), none, .b2s (.tmp 6)⟩,
  ⟨(some 8), none, .build (LV.agg [(LV.int .i64 0), (LV.int .i64 0), (LV.int .i64 0), (LV.int .i64 0), (LV.int .i64 0), (LV.bool false), (LV.bool false), (LV.bytes [0, 0, 0, 0]), (LV.bytes [0, 0, 0, 0]), (LV.str []), (LV.str [])]) [(2, (.cst (LV.int .i64 9))), (3, (.cst (LV.int .i64 17))), (7, (.tmp 3)), (8, (.tmp 4)), (10, (.tmp 7))]⟩,
  ⟨none, none, .store 17 true (.tmp 2) (.tmp 8)⟩] []) .ret)), [.cell 2 17 true]⟩
/-- interpreter/interpreterlaw17.six -/
def c_interpreterlaw17_six : MFn := ⟨1, 9, (.seq (.reg [
  ⟨(some 2), none, .alloc (LV.agg [(LV.int .i64 0), (LV.int .i64 0), (LV.int .i64 0), (LV.bytes [0, 0, 0, 0, 0, 0, 0, 0, 0, 0, 0, 0, 0, 0, 0, 0]), (LV.bytes [0, 0, 0, 0, 0, 0, 0, 0, 0, 0, 0, 0, 0, 0, 0, 0]), LV.nils, (LV.bool false), (LV.int .u32 0), (LV.int .i64 0), (LV.bool false), (LV.int .i64 0), (LV.str [])])⟩] []) (.seq (.reg [
  ⟨(some 3), none, .build (LV.bytes [0, 0, 0, 0, 0, 0, 0, 0, 0, 0, 0, 0, 0, 0, 0, 0]) [(0, (.cst (LV.int .u8 1)))]⟩,
  ⟨(some 4), none, .build (LV.bytes [0, 0, 0, 0, 0, 0, 0, 0, 0, 0, 0, 0, 0, 0, 0, 0]) [(0, (.cst (LV.int .u8 2)))]⟩,
  ⟨(some 5), none, .mov (.tmp 0)⟩,
  ⟨(some 6), none, .mkSl (.tmp 5) (.tmp 5)⟩,
  ⟨(some 7), none, .b2s (.tmp 6)⟩,
  ⟨(some 8), none, .build (LV.agg [(LV.int .i64 0), (LV.int .i64 0), (LV.int .i64 0), (LV.bytes [0, 0, 0, 0, 0, 0, 0, 0, 0, 0, 0, 0, 0, 0, 0, 0]), (LV.bytes [0, 0, 0, 0, 0, 0, 0, 0, 0, 0, 0, 0, 0, 0, 0, 0]), LV.nils, (LV.bool false), (LV.int .u32 0), (LV.int .i64 0), (LV.bool false), (LV.int .i64 0), (LV.str [])]) [(2, (.cst (LV.int .i64 9))), (10, (.cst (LV.int .i64 17))), (3, (.tmp 3)), (4, (.tmp 4)), (11, (.tmp 7))]⟩,
  ⟨none, none, .store 42 true (.tmp 2) (.tmp 8)⟩] []) .ret)), [.cell 2 42 true]⟩
/-- interpreter/ip4.Parse -/
def c_ip4_Parse : MFn := ⟨1, 114, (.seq (.reg [
  ⟨(some 1), none, .box (.tmp 0)⟩,
  ⟨(some 2), none, .alloc (LV.agg [(LV.int .i64 0), (LV.int .i64 0), (LV.int .i64 0), (LV.int .i64 0), (LV.int .i64 0), (LV.bool false), (LV.bool false), (LV.bytes [0, 0, 0, 0]), (LV.bytes [0, 0, 0, 0]), (LV.str []), (LV.str [])])⟩,
  ⟨(some 3), none, .mov (.cst LV.nili)⟩] []) (.seq (.reg [
  ⟨(some 4), none, .alloc (LV.agg [(LV.int .i64 0), (LV.int .i64 0), (LV.int .i64 0), (LV.int .i64 0), (LV.int .i64 0), (LV.bool false), (LV.bool false), (LV.bytes [0, 0, 0, 0]), (LV.bytes [0, 0, 0, 0]), (LV.str []), (LV.str [])])⟩] []) (.seq (.seq (.reg [
  ⟨(some 10), none, .load 1 false (.tmp 1)⟩,
  ⟨(some 11), none, .len true (.tmp 10)⟩,
  ⟨(some 12), none, .bin .lss (.tmp 11) (.cst (LV.int .i64 20))⟩] []) (.cond (.tmp 12) (.seq (.reg [
  ⟨(some 13), none, .load 17 true (.tmp 4)⟩,
  ⟨(some 14), none, .call id_ip4_fault [(.cst (LV.int .i64 7))]⟩,
  ⟨none, none, .store 17 true (.tmp 2) (.tmp 13)⟩,
  ⟨(some 3), none, .mov (.tmp 14)⟩] []) .ret) .skip)) (.seq (.reg [
  ⟨(some 15), none, .load 1 false (.tmp 1)⟩,
  ⟨(some 16), none, .idxStr (.tmp 15) (.cst (LV.int .i64 0))⟩,
  ⟨(some 17), none, .bin .and (.tmp 16) (.cst (LV.int .u8 15))⟩,
  ⟨(some 18), none, .conv .i64 (.tmp 17)⟩,
  ⟨(some 19), none, .bin .mul (.tmp 18) (.cst (LV.int .i64 4))⟩,
  ⟨(some 5), none, .mov (.tmp 19)⟩] []) (.seq (.block 0 (.seq (.reg [
  ⟨(some 21), none, .load 1 false (.tmp 1)⟩,
  ⟨(some 22), none, .idxStr (.tmp 21) (.cst (LV.int .i64 0))⟩,
  ⟨(some 23), none, .bin .shr (.tmp 22) (.cst (LV.int .u64 4))⟩,
  ⟨(some 24), none, .bin .neq (.tmp 23) (.cst (LV.int .u8 4))⟩,
  ⟨(some 25), none, .mov (.tmp 24)⟩,
  ⟨(some 26), (some (25, false)), .mov (.tmp 5)⟩,
  ⟨(some 27), (some (25, false)), .bin .lss (.tmp 26) (.cst (LV.int .i64 20))⟩,
  ⟨(some 28), none, .pick (.tmp 25) (.cst (LV.bool true)) (.tmp 27)⟩,
  ⟨(some 20), none, .mov (.tmp 28)⟩] []) (.cond (.tmp 20) (.seq (.reg [
  ⟨(some 29), none, .load 17 true (.tmp 4)⟩,
  ⟨(some 30), none, .call id_ip4_fault [(.cst (LV.int .i64 8))]⟩,
  ⟨none, none, .store 17 true (.tmp 2) (.tmp 29)⟩,
  ⟨(some 3), none, .mov (.tmp 30)⟩] []) .ret) (.seq (.reg [
  ⟨(some 32), none, .load 1 false (.tmp 1)⟩,
  ⟨(some 33), none, .len true (.tmp 32)⟩,
  ⟨(some 34), none, .mov (.tmp 5)⟩,
  ⟨(some 35), none, .bin .lss (.tmp 33) (.tmp 34)⟩,
  ⟨(some 31), none, .mov (.tmp 35)⟩] []) (.cond (.tmp 31) (.seq (.reg [
  ⟨(some 36), none, .load 17 true (.tmp 4)⟩,
  ⟨(some 37), none, .call id_ip4_fault [(.cst (LV.int .i64 7))]⟩,
  ⟨none, none, .store 17 true (.tmp 2) (.tmp 36)⟩,
  ⟨(some 3), none, .mov (.tmp 37)⟩] []) .ret) (.seq (.reg [
  ⟨(some 39), none, .load 1 false (.tmp 1)⟩,
  ⟨(some 40), none, .mov (.tmp 5)⟩,
  ⟨(some 41), none, .slc 0 (.tmp 39) none (some (.tmp 40))⟩,
  ⟨(some 42), none, .bsl (LV.str []) 1 [(0, (.tmp 41))]⟩,
  ⟨(some 43), none, .call id_sum_Right [(.tmp 42)]⟩,
  ⟨(some 44), none, .un .not (.tmp 43)⟩,
  ⟨(some 38), none, .mov (.tmp 44)⟩] []) (.cond (.tmp 38) (.seq (.reg [
  ⟨(some 45), none, .load 17 true (.tmp 4)⟩,
  ⟨(some 46), none, .call id_ip4_fault [(.cst (LV.int .i64 9))]⟩,
  ⟨none, none, .store 17 true (.tmp 2) (.tmp 45)⟩,
  ⟨(some 3), none, .mov (.tmp 46)⟩] []) .ret) .skip))))))) (.seq (.reg [
  ⟨(some 47), none, .mkFunc id_ip4_Parse_1 [(.tmp 1)]⟩,
  ⟨(some 6), none, .mov (.tmp 47)⟩] []) (.seq (.reg [
  ⟨(some 48), none, .mov (.tmp 6)⟩,
  ⟨(some 49), none, .callv (.tmp 48) [(.cst (LV.int .i64 2))]⟩,
  ⟨(some 50), none, .mov (.tmp 6)⟩,
  ⟨(some 51), none, .callv (.tmp 50) [(.cst (LV.int .i64 6))]⟩,
  ⟨(some 7), none, .mov (.tmp 49)⟩,
  ⟨(some 8), none, .mov (.tmp 51)⟩] []) (.seq (.block 1 (.seq (.reg [
  ⟨(some 53), none, .mov (.tmp 7)⟩,
  ⟨(some 54), none, .mov (.tmp 5)⟩,
  ⟨(some 55), none, .bin .lss (.tmp 53) (.tmp 54)⟩,
  ⟨(some 52), none, .mov (.tmp 55)⟩] []) (.cond (.tmp 52) (.seq (.reg [
  ⟨(some 56), none, .load 17 true (.tmp 4)⟩,
  ⟨(some 57), none, .call id_ip4_fault [(.cst (LV.int .i64 8))]⟩,
  ⟨none, none, .store 17 true (.tmp 2) (.tmp 56)⟩,
  ⟨(some 3), none, .mov (.tmp 57)⟩] []) .ret) (.seq (.reg [
  ⟨(some 59), none, .load 1 false (.tmp 1)⟩,
  ⟨(some 60), none, .len true (.tmp 59)⟩,
  ⟨(some 61), none, .mov (.tmp 7)⟩,
  ⟨(some 62), none, .bin .lss (.tmp 60) (.tmp 61)⟩,
  ⟨(some 58), none, .mov (.tmp 62)⟩] []) (.cond (.tmp 58) (.seq (.reg [
  ⟨(some 63), none, .load 17 true (.tmp 4)⟩,
  ⟨(some 64), none, .call id_ip4_fault [(.cst (LV.int .i64 7))]⟩,
  ⟨none, none, .store 17 true (.tmp 2) (.tmp 63)⟩,
  ⟨(some 3), none, .mov (.tmp 64)⟩] []) .ret) .skip))))) (.seq (.reg [
  ⟨(some 65), none, .load 1 false (.tmp 1)⟩,
  ⟨(some 66), none, .idxStr (.tmp 65) (.cst (LV.int .i64 1))⟩,
  ⟨(some 67), none, .conv .i64 (.tmp 66)⟩,
  ⟨(some 68), none, .mov (.tmp 6)⟩,
  ⟨(some 69), none, .callv (.tmp 68) [(.cst (LV.int .i64 4))]⟩,
  ⟨(some 70), none, .load 1 false (.tmp 1)⟩,
  ⟨(some 71), none, .idxStr (.tmp 70) (.cst (LV.int .i64 8))⟩,
  ⟨(some 72), none, .conv .i64 (.tmp 71)⟩,
  ⟨(some 73), none, .load 1 false (.tmp 1)⟩,
  ⟨(some 74), none, .idxStr (.tmp 73) (.cst (LV.int .i64 9))⟩,
  ⟨(some 75), none, .conv .i64 (.tmp 74)⟩,
  ⟨(some 76), none, .mov (.tmp 8)⟩,
  ⟨(some 77), none, .bin .and (.tmp 76) (.cst (LV.int .i64 8191))⟩,
  ⟨(some 78), none, .bin .mul (.tmp 77) (.cst (LV.int .i64 8))⟩,
  ⟨(some 79), none, .mov (.tmp 8)⟩,
  ⟨(some 80), none, .bin .and (.tmp 79) (.cst (LV.int .i64 16384))⟩,
  ⟨(some 81), none, .bin .neq (.tmp 80) (.cst (LV.int .i64 0))⟩,
  ⟨(some 82), none, .mov (.tmp 8)⟩,
  ⟨(some 83), none, .bin .and (.tmp 82) (.cst (LV.int .i64 8192))⟩,
  ⟨(some 84), none, .bin .neq (.tmp 83) (.cst (LV.int .i64 0))⟩,
  ⟨(some 85), none, .load 1 false (.tmp 1)⟩,
  ⟨(some 86), none, .mov (.tmp 5)⟩,
  ⟨(some 87), none, .slc 0 (.tmp 85) (some (.cst (LV.int .i64 20))) (some (.tmp 86))⟩,
  ⟨(some 88), none, .load 1 false (.tmp 1)⟩,
  ⟨(some 89), none, .mov (.tmp 5)⟩,
  ⟨(some 90), none, .mov (.tmp 7)⟩,
  ⟨(some 91), none, .slc 0 (.tmp 88) (some (.tmp 89)) (some (.tmp 90))⟩,
  ⟨(some 92), none, .build (LV.agg [(LV.int .i64 0), (LV.int .i64 0), (LV.int .i64 0), (LV.int .i64 0), (LV.int .i64 0), (LV.bool false), (LV.bool false), (LV.bytes [0, 0, 0, 0]), (LV.bytes [0, 0, 0, 0]), (LV.str []), (LV.str [])]) [(0, (.tmp 67)), (1, (.tmp 69)), (2, (.tmp 72)), (3, (.tmp 75)), (4, (.tmp 78)), (5, (.tmp 81)), (6, (.tmp 84)), (9, (.tmp 87)), (10, (.tmp 91))]⟩,
  ⟨(some 9), none, .alloc (LV.agg [(LV.int .i64 0), (LV.int .i64 0), (LV.int .i64 0), (LV.int .i64 0), (LV.int .i64 0), (LV.bool false), (LV.bool false), (LV.bytes [0, 0, 0, 0]), (LV.bytes [0, 0, 0, 0]), (LV.str []), (LV.str [])])⟩,
  ⟨none, none, .store 17 true (.tmp 9) (.tmp 92)⟩] []) (.seq (.reg [
  ⟨(some 93), none, .fieldAddr 7 7 (.tmp 9)⟩,
  ⟨(some 94), none, .slcArr 4 (.tmp 93) none none⟩,
  ⟨(some 95), none, .load 1 false (.tmp 1)⟩,
  ⟨(some 96), none, .slc 0 (.tmp 95) (some (.cst (LV.int .i64 12))) none⟩,
  ⟨(some 97), none, .copy (.tmp 94) (.tmp 96)⟩] []) (.seq (.reg [
  ⟨(some 98), none, .fieldAddr 8 11 (.tmp 9)⟩,
  ⟨(some 99), none, .slcArr 4 (.tmp 98) none none⟩,
  ⟨(some 100), none, .load 1 false (.tmp 1)⟩,
  ⟨(some 101), none, .slc 0 (.tmp 100) (some (.cst (LV.int .i64 16))) none⟩,
  ⟨(some 102), none, .copy (.tmp 99) (.tmp 101)⟩] []) (.seq (.seq (.reg [
  ⟨(some 103), none, .mov (.tmp 8)⟩,
  ⟨(some 104), none, .bin .and (.tmp 103) (.cst (LV.int .i64 32768))⟩,
  ⟨(some 105), none, .bin .neq (.tmp 104) (.cst (LV.int .i64 0))⟩,
  ⟨(some 106), none, .mov (.tmp 105)⟩,
  ⟨(some 107), (some (106, false)), .load 17 true (.tmp 9)⟩,
  ⟨(some 108), (some (106, false)), .call id_ip4_why [(.tmp 107)]⟩,
  ⟨(some 109), (some (106, false)), .bin .neq (.tmp 108) (.cst (LV.int .i64 0))⟩,
  ⟨(some 110), none, .pick (.tmp 106) (.cst (LV.bool true)) (.tmp 109)⟩] []) (.cond (.tmp 110) (.seq (.reg [
  ⟨(some 111), none, .load 17 true (.tmp 4)⟩,
  ⟨(some 112), none, .call id_ip4_fault [(.cst (LV.int .i64 8))]⟩,
  ⟨none, none, .store 17 true (.tmp 2) (.tmp 111)⟩,
  ⟨(some 3), none, .mov (.tmp 112)⟩] []) .ret) .skip)) (.seq (.reg [
  ⟨(some 113), none, .load 17 true (.tmp 9)⟩,
  ⟨none, none, .store 17 true (.tmp 2) (.tmp 113)⟩,
  ⟨(some 3), none, .mov (.cst LV.nili)⟩] []) .ret))))))))))))), [.cell 2 17 true, .tmp 3]⟩
/-- interpreter/ip6.Parse -/
def c_ip6_Parse : MFn := ⟨1, 147, (.seq (.reg [
  ⟨(some 2), none, .alloc (LV.agg [(LV.int .i64 0), (LV.int .i64 0), (LV.int .i64 0), (LV.bytes [0, 0, 0, 0, 0, 0, 0, 0, 0, 0, 0, 0, 0, 0, 0, 0]), (LV.bytes [0, 0, 0, 0, 0, 0, 0, 0, 0, 0, 0, 0, 0, 0, 0, 0]), LV.nils, (LV.bool false), (LV.int .u32 0), (LV.int .i64 0), (LV.bool false), (LV.int .i64 0), (LV.str [])])⟩,
  ⟨(some 3), none, .mov (.cst LV.nili)⟩] []) (.seq (.reg [
  ⟨(some 4), none, .alloc (LV.agg [(LV.int .i64 0), (LV.int .i64 0), (LV.int .i64 0), (LV.bytes [0, 0, 0, 0, 0, 0, 0, 0, 0, 0, 0, 0, 0, 0, 0, 0]), (LV.bytes [0, 0, 0, 0, 0, 0, 0, 0, 0, 0, 0, 0, 0, 0, 0, 0]), LV.nils, (LV.bool false), (LV.int .u32 0), (LV.int .i64 0), (LV.bool false), (LV.int .i64 0), (LV.str [])])⟩] []) (.seq (.seq (.reg [
  ⟨(some 13), none, .mov (.tmp 0)⟩,
  ⟨(some 14), none, .len true (.tmp 13)⟩,
  ⟨(some 15), none, .bin .lss (.tmp 14) (.cst (LV.int .i64 40))⟩] []) (.cond (.tmp 15) (.seq (.reg [
  ⟨(some 16), none, .load 42 true (.tmp 4)⟩,
  ⟨(some 17), none, .call id_ip6_fault [(.cst (LV.int .i64 7))]⟩,
  ⟨none, none, .store 42 true (.tmp 2) (.tmp 16)⟩,
  ⟨(some 3), none, .mov (.tmp 17)⟩] []) .ret) .skip)) (.seq (.seq (.reg [
  ⟨(some 18), none, .mov (.tmp 0)⟩,
  ⟨(some 19), none, .idxStr (.tmp 18) (.cst (LV.int .i64 0))⟩,
  ⟨(some 20), none, .bin .shr (.tmp 19) (.cst (LV.int .u64 4))⟩,
  ⟨(some 21), none, .bin .neq (.tmp 20) (.cst (LV.int .u8 6))⟩] []) (.cond (.tmp 21) (.seq (.reg [
  ⟨(some 22), none, .load 42 true (.tmp 4)⟩,
  ⟨(some 23), none, .call id_ip6_fault [(.cst (LV.int .i64 8))]⟩,
  ⟨none, none, .store 42 true (.tmp 2) (.tmp 22)⟩,
  ⟨(some 3), none, .mov (.tmp 23)⟩] []) .ret) .skip)) (.seq (.reg [
  ⟨(some 24), none, .mov (.tmp 0)⟩,
  ⟨(some 25), none, .idxStr (.tmp 24) (.cst (LV.int .i64 4))⟩,
  ⟨(some 26), none, .conv .i64 (.tmp 25)⟩,
  ⟨(some 27), none, .bin .shl (.tmp 26) (.cst (LV.int .u64 8))⟩,
  ⟨(some 28), none, .mov (.tmp 0)⟩,
  ⟨(some 29), none, .idxStr (.tmp 28) (.cst (LV.int .i64 5))⟩,
  ⟨(some 30), none, .conv .i64 (.tmp 29)⟩,
  ⟨(some 31), none, .bin .or (.tmp 27) (.tmp 30)⟩,
  ⟨(some 5), none, .mov (.tmp 31)⟩] []) (.seq (.seq (.reg [
  ⟨(some 32), none, .mov (.tmp 0)⟩,
  ⟨(some 33), none, .len true (.tmp 32)⟩,
  ⟨(some 34), none, .mov (.tmp 5)⟩,
  ⟨(some 35), none, .bin .add (.cst (LV.int .i64 40)) (.tmp 34)⟩,
  ⟨(some 36), none, .bin .lss (.tmp 33) (.tmp 35)⟩] []) (.cond (.tmp 36) (.seq (.reg [
  ⟨(some 37), none, .load 42 true (.tmp 4)⟩,
  ⟨(some 38), none, .call id_ip6_fault [(.cst (LV.int .i64 7))]⟩,
  ⟨none, none, .store 42 true (.tmp 2) (.tmp 37)⟩,
  ⟨(some 3), none, .mov (.tmp 38)⟩] []) .ret) .skip)) (.seq (.reg [
  ⟨(some 40), none, .mov (.tmp 0)⟩,
  ⟨(some 41), none, .callFr id_num_New [(.tmp 40)]⟩,
  ⟨(some 42), none, .callRw id_num_Reader_U32 [(.tmp 41)]⟩,
  ⟨(some 39), none, .mov (.tmp 42)⟩,
  ⟨(some 43), none, .extract (.tmp 39) 0⟩,
  ⟨(some 44), none, .extract (.tmp 39) 1⟩,
  ⟨(some 6), none, .mov (.tmp 43)⟩,
  ⟨(some 7), none, .mov (.tmp 44)⟩] []) (.seq (.reg [
  ⟨(some 45), none, .mov (.tmp 6)⟩,
  ⟨(some 46), none, .bin .shr (.tmp 45) (.cst (LV.int .u64 20))⟩,
  ⟨(some 47), none, .bin .and (.tmp 46) (.cst (LV.int .i64 255))⟩,
  ⟨(some 48), none, .mov (.tmp 6)⟩,
  ⟨(some 49), none, .bin .and (.tmp 48) (.cst (LV.int .i64 1048575))⟩,
  ⟨(some 50), none, .mov (.tmp 0)⟩,
  ⟨(some 51), none, .idxStr (.tmp 50) (.cst (LV.int .i64 7))⟩,
  ⟨(some 52), none, .conv .i64 (.tmp 51)⟩,
  ⟨(some 53), none, .build (LV.agg [(LV.int .i64 0), (LV.int .i64 0), (LV.int .i64 0), (LV.bytes [0, 0, 0, 0, 0, 0, 0, 0, 0, 0, 0, 0, 0, 0, 0, 0]), (LV.bytes [0, 0, 0, 0, 0, 0, 0, 0, 0, 0, 0, 0, 0, 0, 0, 0]), LV.nils, (LV.bool false), (LV.int .u32 0), (LV.int .i64 0), (LV.bool false), (LV.int .i64 0), (LV.str [])]) [(0, (.tmp 47)), (1, (.tmp 49)), (2, (.tmp 52))]⟩,
  ⟨(some 8), none, .alloc (LV.agg [(LV.int .i64 0), (LV.int .i64 0), (LV.int .i64 0), (LV.bytes [0, 0, 0, 0, 0, 0, 0, 0, 0, 0, 0, 0, 0, 0, 0, 0]), (LV.bytes [0, 0, 0, 0, 0, 0, 0, 0, 0, 0, 0, 0, 0, 0, 0, 0]), LV.nils, (LV.bool false), (LV.int .u32 0), (LV.int .i64 0), (LV.bool false), (LV.int .i64 0), (LV.str [])])⟩,
  ⟨none, none, .store 42 true (.tmp 8) (.tmp 53)⟩] []) (.seq (.reg [
  ⟨(some 54), none, .fieldAddr 3 3 (.tmp 8)⟩,
  ⟨(some 55), none, .slcArr 16 (.tmp 54) none none⟩,
  ⟨(some 56), none, .mov (.tmp 0)⟩,
  ⟨(some 57), none, .slc 0 (.tmp 56) (some (.cst (LV.int .i64 8))) none⟩,
  ⟨(some 58), none, .copy (.tmp 55) (.tmp 57)⟩] []) (.seq (.reg [
  ⟨(some 59), none, .fieldAddr 4 19 (.tmp 8)⟩,
  ⟨(some 60), none, .slcArr 16 (.tmp 59) none none⟩,
  ⟨(some 61), none, .mov (.tmp 0)⟩,
  ⟨(some 62), none, .slc 0 (.tmp 61) (some (.cst (LV.int .i64 24))) none⟩,
  ⟨(some 63), none, .copy (.tmp 60) (.tmp 62)⟩] []) (.seq (.reg [
  ⟨(some 9), none, .mov (.cst LV.nili)⟩] []) (.seq (.reg [
  ⟨(some 65), none, .mov (.tmp 0)⟩,
  ⟨(some 66), none, .idxStr (.tmp 65) (.cst (LV.int .i64 6))⟩,
  ⟨(some 67), none, .conv .i64 (.tmp 66)⟩,
  ⟨(some 68), none, .mov (.tmp 0)⟩,
  ⟨(some 69), none, .mov (.tmp 5)⟩,
  ⟨(some 70), none, .bin .add (.cst (LV.int .i64 40)) (.tmp 69)⟩,
  ⟨(some 71), none, .slc 0 (.tmp 68) (some (.cst (LV.int .i64 40))) (some (.tmp 70))⟩,
  ⟨(some 72), none, .call id_ip6_Chain [(.tmp 67), (.tmp 71)]⟩,
  ⟨(some 64), none, .mov (.tmp 72)⟩,
  ⟨(some 73), none, .extract (.tmp 64) 0⟩,
  ⟨(some 74), none, .extract (.tmp 64) 1⟩,
  ⟨(some 75), none, .extract (.tmp 64) 2⟩,
  ⟨(some 76), none, .extract (.tmp 64) 3⟩,
  ⟨(some 77), none, .fieldAddr 5 35 (.tmp 8)⟩,
  ⟨none, none, .store 1 false (.tmp 77) (.tmp 73)⟩,
  ⟨(some 78), none, .fieldAddr 10 40 (.tmp 8)⟩,
  ⟨none, none, .store 1 false (.tmp 78) (.tmp 74)⟩,
  ⟨(some 79), none, .fieldAddr 11 41 (.tmp 8)⟩,
  ⟨none, none, .store 1 false (.tmp 79) (.tmp 75)⟩,
  ⟨(some 9), none, .mov (.tmp 76)⟩] []) (.seq (.seq (.reg [
  ⟨(some 80), none, .mov (.tmp 9)⟩,
  ⟨(some 81), none, .eqNil 1 true (.tmp 80)⟩] []) (.cond (.tmp 81) (.seq (.reg [
  ⟨(some 82), none, .load 42 true (.tmp 4)⟩,
  ⟨(some 83), none, .mov (.tmp 9)⟩,
  ⟨none, none, .store 42 true (.tmp 2) (.tmp 82)⟩,
  ⟨(some 3), none, .mov (.tmp 83)⟩] []) .ret) .skip)) (.seq (.seq (.reg [
  ⟨(some 84), none, .fieldAddr 10 40 (.tmp 8)⟩,
  ⟨(some 85), none, .load 1 false (.tmp 84)⟩,
  ⟨(some 86), none, .bin .neq (.tmp 85) (.cst (LV.int .i64 44))⟩] []) (.cond (.tmp 86) (.seq (.reg [
  ⟨(some 87), none, .load 42 true (.tmp 8)⟩,
  ⟨none, none, .store 42 true (.tmp 2) (.tmp 87)⟩,
  ⟨(some 3), none, .mov (.cst LV.nili)⟩] []) .ret) .skip)) (.seq (.seq (.reg [
  ⟨(some 88), none, .fieldAddr 11 41 (.tmp 8)⟩,
  ⟨(some 89), none, .load 1 false (.tmp 88)⟩,
  ⟨(some 90), none, .len true (.tmp 89)⟩,
  ⟨(some 91), none, .bin .lss (.tmp 90) (.cst (LV.int .i64 8))⟩] []) (.cond (.tmp 91) (.seq (.reg [
  ⟨(some 92), none, .load 42 true (.tmp 4)⟩,
  ⟨(some 93), none, .call id_ip6_fault [(.cst (LV.int .i64 7))]⟩,
  ⟨none, none, .store 42 true (.tmp 2) (.tmp 92)⟩,
  ⟨(some 3), none, .mov (.tmp 93)⟩] []) .ret) .skip)) (.seq (.reg [
  ⟨(some 94), none, .fieldAddr 11 41 (.tmp 8)⟩,
  ⟨(some 95), none, .load 1 false (.tmp 94)⟩,
  ⟨(some 96), none, .idxStr (.tmp 95) (.cst (LV.int .i64 2))⟩,
  ⟨(some 97), none, .conv .i64 (.tmp 96)⟩,
  ⟨(some 98), none, .bin .shl (.tmp 97) (.cst (LV.int .u64 8))⟩,
  ⟨(some 99), none, .fieldAddr 11 41 (.tmp 8)⟩,
  ⟨(some 100), none, .load 1 false (.tmp 99)⟩,
  ⟨(some 101), none, .idxStr (.tmp 100) (.cst (LV.int .i64 3))⟩,
  ⟨(some 102), none, .conv .i64 (.tmp 101)⟩,
  ⟨(some 103), none, .bin .or (.tmp 98) (.tmp 102)⟩,
  ⟨(some 10), none, .mov (.tmp 103)⟩] []) (.seq (.reg [
  ⟨(some 105), none, .fieldAddr 11 41 (.tmp 8)⟩,
  ⟨(some 106), none, .load 1 false (.tmp 105)⟩,
  ⟨(some 107), none, .slc 0 (.tmp 106) (some (.cst (LV.int .i64 4))) none⟩,
  ⟨(some 108), none, .callFr id_num_New [(.tmp 107)]⟩,
  ⟨(some 109), none, .callRw id_num_Reader_U32 [(.tmp 108)]⟩,
  ⟨(some 104), none, .mov (.tmp 109)⟩,
  ⟨(some 110), none, .extract (.tmp 104) 0⟩,
  ⟨(some 111), none, .extract (.tmp 104) 1⟩,
  ⟨(some 11), none, .mov (.tmp 110)⟩,
  ⟨(some 12), none, .mov (.tmp 111)⟩] []) (.seq (.reg [
  ⟨(some 112), none, .mov (.tmp 11)⟩,
  ⟨(some 113), none, .conv .u32 (.tmp 112)⟩,
  ⟨(some 114), none, .mov (.tmp 10)⟩,
  ⟨(some 115), none, .bin .andNot (.tmp 114) (.cst (LV.int .i64 7))⟩,
  ⟨(some 116), none, .mov (.tmp 10)⟩,
  ⟨(some 117), none, .bin .and (.tmp 116) (.cst (LV.int .i64 1))⟩,
  ⟨(some 118), none, .bin .neq (.tmp 117) (.cst (LV.int .i64 0))⟩,
  ⟨(some 119), none, .fieldAddr 11 41 (.tmp 8)⟩,
  ⟨(some 120), none, .load 1 false (.tmp 119)⟩,
  ⟨(some 121), none, .idxStr (.tmp 120) (.cst (LV.int .i64 0))⟩,
  ⟨(some 122), none, .conv .i64 (.tmp 121)⟩,
  ⟨(some 123), none, .fieldAddr 11 41 (.tmp 8)⟩,
  ⟨(some 124), none, .load 1 false (.tmp 123)⟩,
  ⟨(some 125), none, .slc 0 (.tmp 124) (some (.cst (LV.int .i64 8))) none⟩,
  ⟨(some 126), none, .fieldAddr 6 36 (.tmp 8)⟩,
  ⟨none, none, .store 1 false (.tmp 126) (.cst (LV.bool true))⟩,
  ⟨(some 127), none, .fieldAddr 7 37 (.tmp 8)⟩,
  ⟨none, none, .store 1 false (.tmp 127) (.tmp 113)⟩,
  ⟨(some 128), none, .fieldAddr 8 38 (.tmp 8)⟩,
  ⟨none, none, .store 1 false (.tmp 128) (.tmp 115)⟩,
  ⟨(some 129), none, .fieldAddr 9 39 (.tmp 8)⟩,
  ⟨none, none, .store 1 false (.tmp 129) (.tmp 118)⟩,
  ⟨(some 130), none, .fieldAddr 10 40 (.tmp 8)⟩,
  ⟨none, none, .store 1 false (.tmp 130) (.tmp 122)⟩,
  ⟨(some 131), none, .fieldAddr 11 41 (.tmp 8)⟩,
  ⟨none, none, .store 1 false (.tmp 131) (.tmp 125)⟩] []) (.seq (.seq (.reg [
  ⟨(some 132), none, .load 42 true (.tmp 8)⟩,
  ⟨(some 133), none, .call id_ip6_pieced [(.tmp 132)]⟩,
  ⟨(some 134), none, .un .not (.tmp 133)⟩,
  ⟨(some 135), none, .mov (.tmp 134)⟩,
  ⟨(some 136), (some (135, false)), .fieldAddr 11 41 (.tmp 8)⟩,
  ⟨(some 137), (some (135, false)), .load 1 false (.tmp 136)⟩,
  ⟨(some 138), (some (135, false)), .len true (.tmp 137)⟩,
  ⟨(some 139), (some (135, false)), .fieldAddr 8 38 (.tmp 8)⟩,
  ⟨(some 140), (some (135, false)), .load 1 false (.tmp 139)⟩,
  ⟨(some 141), (some (135, false)), .bin .sub (.cst (LV.int .i64 65535)) (.tmp 140)⟩,
  ⟨(some 142), (some (135, false)), .bin .gtr (.tmp 138) (.tmp 141)⟩,
  ⟨(some 143), none, .pick (.tmp 135) (.cst (LV.bool true)) (.tmp 142)⟩] []) (.cond (.tmp 143) (.seq (.reg [
  ⟨(some 144), none, .load 42 true (.tmp 4)⟩,
  ⟨(some 145), none, .call id_ip6_fault [(.cst (LV.int .i64 8))]⟩,
  ⟨none, none, .store 42 true (.tmp 2) (.tmp 144)⟩,
  ⟨(some 3), none, .mov (.tmp 145)⟩] []) .ret) .skip)) (.seq (.reg [
  ⟨(some 146), none, .load 42 true (.tmp 8)⟩,
  ⟨none, none, .store 42 true (.tmp 2) (.tmp 146)⟩,
  ⟨(some 3), none, .mov (.cst LV.nili)⟩] []) .ret)))))))))))))))))))), [.cell 2 42 true, .tmp 3]⟩
/-- interpreter/refrag.pieces -/
def c_refrag_pieces : MFn := ⟨2, 24, (.seq (.reg [
  ⟨(some 4), none, .mov (.cst LV.nils)⟩] []) (.seq (.reg [
  ⟨(some 5), none, .nilT 2⟩] []) (.seq (.seq (.reg [
  ⟨(some 6), none, .mov (.cst (LV.int .i64 0))⟩] []) (.block 0 (.loop [5, 6] [7, 8, 9, 13, 14, 15, 16, 17, 18, 19, 20, 21, 22, 10, 11, 12] (.seq (.seq (.reg [
  ⟨(some 7), none, .mov (.tmp 6)⟩,
  ⟨(some 8), none, .mov (.tmp 0)⟩,
  ⟨(some 9), none, .bin .lss (.tmp 7) (.tmp 8)⟩] []) (.cond (.tmp 9) .skip (.exit 0))) (.seq (.block 1 (.reg [
  ⟨(some 13), none, .mov (.tmp 5)⟩,
  ⟨(some 14), none, .mov (.tmp 6)⟩,
  ⟨(some 15), none, .mov (.tmp 6)⟩,
  ⟨(some 16), none, .mov (.tmp 1)⟩,
  ⟨(some 17), none, .bin .add (.tmp 15) (.tmp 16)⟩,
  ⟨(some 18), none, .mov (.tmp 0)⟩,
  ⟨(some 19), none, .minmax false (.tmp 17) [(.tmp 18)]⟩,
  ⟨(some 20), none, .build (LV.agg [(LV.int .i64 0), (LV.int .i64 0)]) [(0, (.tmp 14)), (1, (.tmp 19))]⟩,
  ⟨(some 21), none, .bsl (LV.agg [(LV.int .i64 0), (LV.int .i64 0)]) 1 [(0, (.tmp 20))]⟩,
  ⟨(some 22), none, .append 2 16 (.tmp 13) (.tmp 21)⟩,
  ⟨(some 5), none, .mov (.tmp 22)⟩] [])) (.reg [
  ⟨(some 10), none, .mov (.tmp 6)⟩,
  ⟨(some 11), none, .mov (.tmp 1)⟩,
  ⟨(some 12), none, .bin .add (.tmp 10) (.tmp 11)⟩,
  ⟨(some 6), none, .mov (.tmp 12)⟩] [])))))) (.seq (.reg [
  ⟨(some 23), none, .mov (.tmp 5)⟩,
  ⟨(some 4), none, .mov (.tmp 23)⟩] []) .ret)))), [.tmp 4]⟩
/-- interpreter/ip4.why -/
def c_ip4_why : MFn := ⟨1, 79, (.seq (.reg [
  ⟨(some 1), none, .box (.tmp 0)⟩,
  ⟨(some 2), none, .mov (.cst (LV.int .i64 0))⟩] []) (.seq (.block 0 (.seq (.reg [
  ⟨(some 4), none, .fieldAddr 0 0 (.tmp 1)⟩,
  ⟨(some 5), none, .load 1 false (.tmp 4)⟩,
  ⟨(some 6), none, .fieldAddr 2 2 (.tmp 1)⟩,
  ⟨(some 7), none, .load 1 false (.tmp 6)⟩,
  ⟨(some 8), none, .fieldAddr 3 3 (.tmp 1)⟩,
  ⟨(some 9), none, .load 1 false (.tmp 8)⟩,
  ⟨(some 10), none, .bsl (LV.int .i64 0) 3 [(0, (.tmp 5)), (1, (.tmp 7)), (2, (.tmp 9))]⟩,
  ⟨(some 11), none, .call id_ip4_byteful [(.tmp 10)]⟩,
  ⟨(some 12), none, .un .not (.tmp 11)⟩,
  ⟨(some 13), none, .mov (.tmp 12)⟩,
  ⟨(some 14), (some (13, false)), .fieldAddr 1 1 (.tmp 1)⟩,
  ⟨(some 15), (some (13, false)), .load 1 false (.tmp 14)⟩,
  ⟨(some 16), (some (13, false)), .bin .lss (.tmp 15) (.cst (LV.int .i64 0))⟩,
  ⟨(some 17), none, .pick (.tmp 13) (.cst (LV.bool true)) (.tmp 16)⟩,
  ⟨(some 18), none, .mov (.tmp 17)⟩,
  ⟨(some 19), (some (18, false)), .fieldAddr 1 1 (.tmp 1)⟩,
  ⟨(some 20), (some (18, false)), .load 1 false (.tmp 19)⟩,
  ⟨(some 21), (some (18, false)), .bin .gtr (.tmp 20) (.cst (LV.int .i64 65535))⟩,
  ⟨(some 22), none, .pick (.tmp 18) (.cst (LV.bool true)) (.tmp 21)⟩,
  ⟨(some 23), none, .mov (.tmp 22)⟩,
  ⟨(some 24), (some (23, false)), .fieldAddr 4 4 (.tmp 1)⟩,
  ⟨(some 25), (some (23, false)), .load 1 false (.tmp 24)⟩,
  ⟨(some 26), (some (23, false)), .bin .lss (.tmp 25) (.cst (LV.int .i64 0))⟩,
  ⟨(some 27), none, .pick (.tmp 23) (.cst (LV.bool true)) (.tmp 26)⟩,
  ⟨(some 28), none, .mov (.tmp 27)⟩,
  ⟨(some 29), (some (28, false)), .fieldAddr 4 4 (.tmp 1)⟩,
  ⟨(some 30), (some (28, false)), .load 1 false (.tmp 29)⟩,
  ⟨(some 31), (some (28, false)), .bin .gtr (.tmp 30) (.cst (LV.int .i64 65528))⟩,
  ⟨(some 32), none, .pick (.tmp 28) (.cst (LV.bool true)) (.tmp 31)⟩,
  ⟨(some 33), none, .mov (.tmp 32)⟩,
  ⟨(some 34), (some (33, false)), .fieldAddr 4 4 (.tmp 1)⟩,
  ⟨(some 35), (some (33, false)), .load 1 false (.tmp 34)⟩,
  ⟨(some 36), (some (33, false)), .bin .rem (.tmp 35) (.cst (LV.int .i64 8))⟩,
  ⟨(some 37), (some (33, false)), .bin .neq (.tmp 36) (.cst (LV.int .i64 0))⟩,
  ⟨(some 38), none, .pick (.tmp 33) (.cst (LV.bool true)) (.tmp 37)⟩,
  ⟨(some 3), none, .mov (.tmp 38)⟩] []) (.cond (.tmp 3) (.seq (.reg [
  ⟨(some 2), none, .mov (.cst (LV.int .i64 13))⟩] []) .ret) (.seq (.reg [
  ⟨(some 40), none, .fieldAddr 9 15 (.tmp 1)⟩,
  ⟨(some 41), none, .load 1 false (.tmp 40)⟩,
  ⟨(some 42), none, .len true (.tmp 41)⟩,
  ⟨(some 43), none, .bin .gtr (.tmp 42) (.cst (LV.int .i64 40))⟩,
  ⟨(some 44), none, .mov (.tmp 43)⟩,
  ⟨(some 45), (some (44, false)), .fieldAddr 9 15 (.tmp 1)⟩,
  ⟨(some 46), (some (44, false)), .load 1 false (.tmp 45)⟩,
  ⟨(some 47), (some (44, false)), .len true (.tmp 46)⟩,
  ⟨(some 48), (some (44, false)), .bin .rem (.tmp 47) (.cst (LV.int .i64 4))⟩,
  ⟨(some 49), (some (44, false)), .bin .neq (.tmp 48) (.cst (LV.int .i64 0))⟩,
  ⟨(some 50), none, .pick (.tmp 44) (.cst (LV.bool true)) (.tmp 49)⟩,
  ⟨(some 51), none, .mov (.tmp 50)⟩,
  ⟨(some 52), (some (51, false)), .fieldAddr 6 6 (.tmp 1)⟩,
  ⟨(some 53), (some (51, false)), .load 1 false (.tmp 52)⟩,
  ⟨(some 54), (some (51, false)), .mov (.tmp 53)⟩,
  ⟨(some 55), (some (54, true)), .fieldAddr 10 16 (.tmp 1)⟩,
  ⟨(some 56), (some (54, true)), .load 1 false (.tmp 55)⟩,
  ⟨(some 57), (some (54, true)), .bin .eql (.tmp 56) (.cst (LV.str []))⟩,
  ⟨(some 58), (some (54, true)), .mov (.tmp 57)⟩,
  ⟨(some 59), (some (58, false)), .fieldAddr 10 16 (.tmp 1)⟩,
  ⟨(some 60), (some (58, false)), .load 1 false (.tmp 59)⟩,
  ⟨(some 61), (some (58, false)), .len true (.tmp 60)⟩,
  ⟨(some 62), (some (58, false)), .bin .rem (.tmp 61) (.cst (LV.int .i64 8))⟩,
  ⟨(some 63), (some (58, false)), .bin .neq (.tmp 62) (.cst (LV.int .i64 0))⟩,
  ⟨(some 64), (some (54, true)), .pick (.tmp 58) (.cst (LV.bool true)) (.tmp 63)⟩,
  ⟨(some 65), (some (51, false)), .pick (.tmp 54) (.tmp 64) (.cst (LV.bool false))⟩,
  ⟨(some 66), none, .pick (.tmp 51) (.cst (LV.bool true)) (.tmp 65)⟩,
  ⟨(some 39), none, .mov (.tmp 66)⟩] []) (.cond (.tmp 39) (.seq (.reg [
  ⟨(some 2), none, .mov (.cst (LV.int .i64 8))⟩] []) .ret) (.seq (.reg [
  ⟨(some 68), none, .fieldAddr 10 16 (.tmp 1)⟩,
  ⟨(some 69), none, .load 1 false (.tmp 68)⟩,
  ⟨(some 70), none, .len true (.tmp 69)⟩,
  ⟨(some 71), none, .fieldAddr 9 15 (.tmp 1)⟩,
  ⟨(some 72), none, .load 1 false (.tmp 71)⟩,
  ⟨(some 73), none, .len true (.tmp 72)⟩,
  ⟨(some 74), none, .bin .sub (.cst (LV.int .i64 65515)) (.tmp 73)⟩,
  ⟨(some 75), none, .fieldAddr 4 4 (.tmp 1)⟩,
  ⟨(some 76), none, .load 1 false (.tmp 75)⟩,
  ⟨(some 77), none, .bin .sub (.tmp 74) (.tmp 76)⟩,
  ⟨(some 78), none, .bin .gtr (.tmp 70) (.tmp 77)⟩,
  ⟨(some 67), none, .mov (.tmp 78)⟩] []) (.cond (.tmp 67) (.seq (.reg [
  ⟨(some 2), none, .mov (.cst (LV.int .i64 3))⟩] []) .ret) .skip))))))) (.seq (.reg [
  ⟨(some 2), none, .mov (.cst (LV.int .i64 0))⟩] []) .ret))), [.tmp 2]⟩
/-- interpreter/ip4.fault -/
def c_ip4_fault : MFn := ⟨1, 7, (.seq (.reg [
  ⟨(some 2), none, .mov (.cst LV.nili)⟩] []) (.seq (.reg [
  ⟨(some 3), none, .mov (.tmp 0)⟩,
  ⟨(some 4), none, .build (LV.agg [(LV.int .i64 0), (LV.int .i64 0)]) [(0, (.tmp 3))]⟩,
  ⟨(some 5), none, .box (.tmp 4)⟩,
  ⟨(some 6), none, .mkIface ty_ptr_num_Fault (.tmp 5)⟩,
  ⟨(some 2), none, .mov (.tmp 6)⟩] []) .ret)), [.tmp 2]⟩
/-- interpreter/ip4.big -/
def c_ip4_big : MFn := ⟨2, 14, (.seq (.reg [
  ⟨(some 4), none, .mov (.cst (LV.str []))⟩] []) (.seq (.reg [
  ⟨(some 8), none, .mov (.tmp 0)⟩,
  ⟨(some 9), none, .mov (.tmp 1)⟩,
  ⟨(some 10), none, .call id_num_Big [(.tmp 8), (.tmp 9)]⟩,
  ⟨(some 7), none, .mov (.tmp 10)⟩,
  ⟨(some 11), none, .extract (.tmp 7) 0⟩,
  ⟨(some 12), none, .extract (.tmp 7) 1⟩,
  ⟨(some 5), none, .mov (.tmp 11)⟩,
  ⟨(some 6), none, .mov (.tmp 12)⟩] []) (.seq (.reg [
  ⟨(some 13), none, .mov (.tmp 5)⟩,
  ⟨(some 4), none, .mov (.tmp 13)⟩] []) .ret))), [.tmp 4]⟩
/-- interpreter/sum.Of -/
def c_sum_Of : MFn := ⟨1, 25, (.seq (.reg [
  ⟨(some 2), none, .mov (.cst (LV.int .i64 0))⟩] []) (.seq (.reg [
  ⟨(some 3), none, .mov (.cst (LV.int .i64 0))⟩,
  ⟨(some 4), none, .mov (.cst (LV.int .i64 0))⟩] []) (.seq (.seq (.reg [
  ⟨(some 7), none, .mov (.tmp 0)⟩,
  ⟨(some 8), none, .len false (.tmp 7)⟩,
  ⟨(some 9), none, .mov (.cst (LV.int .i64 0))⟩] []) (.block 0 (.loop [3, 4, 9] [10, 11, 12, 6, 13, 14, 15, 16, 17, 18, 19, 20, 21, 22] (.seq (.reg [
  ⟨(some 10), none, .bin .lss (.tmp 9) (.tmp 8)⟩] []) (.seq (.cond (.tmp 10) .skip (.exit 0)) (.seq (.block 1 (.seq (.reg [
  ⟨(some 11), none, .idxAddr none 1 (.tmp 7) (.tmp 9)⟩,
  ⟨(some 12), none, .load 1 false (.tmp 11)⟩,
  ⟨(some 6), none, .mov (.tmp 12)⟩] []) (.seq (.reg [
  ⟨(some 13), none, .mov (.tmp 3)⟩,
  ⟨(some 14), none, .mov (.tmp 4)⟩,
  ⟨(some 15), none, .mov (.tmp 6)⟩,
  ⟨(some 16), none, .call id_sum_add [(.tmp 13), (.tmp 14), (.tmp 15), (.cst (LV.int .u8 0))]⟩,
  ⟨(some 17), none, .call id_sum_fold [(.tmp 16)]⟩,
  ⟨(some 3), none, .mov (.tmp 17)⟩] []) (.reg [
  ⟨(some 18), none, .mov (.tmp 4)⟩,
  ⟨(some 19), none, .mov (.tmp 6)⟩,
  ⟨(some 20), none, .len true (.tmp 19)⟩,
  ⟨(some 21), none, .bin .add (.tmp 18) (.tmp 20)⟩,
  ⟨(some 4), none, .mov (.tmp 21)⟩] [])))) (.reg [
  ⟨(some 22), none, .bin .add (.tmp 9) (.cst (LV.int .i64 1))⟩,
  ⟨(some 9), none, .mov (.tmp 22)⟩] []))))))) (.seq (.reg [
  ⟨(some 23), none, .mov (.tmp 3)⟩,
  ⟨(some 24), none, .bin .sub (.cst (LV.int .i64 65535)) (.tmp 23)⟩,
  ⟨(some 2), none, .mov (.tmp 24)⟩] []) .ret)))), [.tmp 2]⟩
/-- interpreter/interpreterref17.Room -/
def c_interpreterref17_Room : MFn := ⟨2, 15, (.seq (.reg [
  ⟨(some 4), none, .mov (.cst (LV.int .i64 0))⟩] []) (.seq (.reg [
  ⟨(some 5), none, .mov (.cst (LV.int .i64 0))⟩] []) (.seq (.block 0 (.loop [5] [6, 7, 8, 9, 10, 11, 12, 13] (.seq (.seq (.reg [
  ⟨(some 6), none, .mov (.tmp 1)⟩,
  ⟨(some 7), none, .mov (.tmp 5)⟩,
  ⟨(some 8), none, .bin .add (.tmp 6) (.tmp 7)⟩,
  ⟨(some 9), none, .bin .add (.tmp 8) (.cst (LV.int .i64 8))⟩,
  ⟨(some 10), none, .mov (.tmp 0)⟩,
  ⟨(some 11), none, .bin .leq (.tmp 9) (.tmp 10)⟩] []) (.cond (.tmp 11) .skip (.exit 0))) (.block 1 (.reg [
  ⟨(some 12), none, .mov (.tmp 5)⟩,
  ⟨(some 13), none, .bin .add (.tmp 12) (.cst (LV.int .i64 8))⟩,
  ⟨(some 5), none, .mov (.tmp 13)⟩] []))))) (.seq (.reg [
  ⟨(some 14), none, .mov (.tmp 5)⟩,
  ⟨(some 4), none, .mov (.tmp 14)⟩] []) .ret)))), [.tmp 4]⟩
/-- slices.Clone[[]interpreter/api.Ext,interpreter/api.Ext] -/
def c_slices_Clone_api_Ext_api_Ext : MFn := ⟨1, 8, (.seq (.reg [
  ⟨(some 2), none, .mov (.cst LV.nils)⟩] []) (.seq (.seq (.reg [
  ⟨(some 3), none, .mov (.tmp 0)⟩,
  ⟨(some 4), none, .eqNil 3 false (.tmp 3)⟩] []) (.cond (.tmp 4) (.seq (.reg [
  ⟨(some 2), none, .mov (.cst LV.nils)⟩] []) .ret) .skip)) (.seq (.reg [
  ⟨(some 5), none, .slc0 (.cst LV.nils)⟩,
  ⟨(some 6), none, .mov (.tmp 0)⟩,
  ⟨(some 7), none, .append 2 24 (.tmp 5) (.tmp 6)⟩,
  ⟨(some 2), none, .mov (.tmp 7)⟩] []) .ret))), [.tmp 2]⟩
/-- interpreter/ip6.why -/
def c_ip6_why : MFn := ⟨1, 65, (.seq (.reg [
  ⟨(some 1), none, .box (.tmp 0)⟩,
  ⟨(some 2), none, .mov (.cst (LV.int .i64 0))⟩] []) (.seq (.block 0 (.seq (.reg [
  ⟨(some 4), none, .fieldAddr 0 0 (.tmp 1)⟩,
  ⟨(some 5), none, .load 1 false (.tmp 4)⟩,
  ⟨(some 6), none, .call id_ip6_within [(.tmp 5), (.cst (LV.int .i64 255))]⟩,
  ⟨(some 7), none, .un .not (.tmp 6)⟩,
  ⟨(some 8), none, .mov (.tmp 7)⟩,
  ⟨(some 9), (some (8, false)), .fieldAddr 1 1 (.tmp 1)⟩,
  ⟨(some 10), (some (8, false)), .load 1 false (.tmp 9)⟩,
  ⟨(some 11), (some (8, false)), .call id_ip6_within [(.tmp 10), (.cst (LV.int .i64 1048575))]⟩,
  ⟨(some 12), (some (8, false)), .un .not (.tmp 11)⟩,
  ⟨(some 13), none, .pick (.tmp 8) (.cst (LV.bool true)) (.tmp 12)⟩,
  ⟨(some 14), none, .mov (.tmp 13)⟩,
  ⟨(some 15), (some (14, false)), .fieldAddr 2 2 (.tmp 1)⟩,
  ⟨(some 16), (some (14, false)), .load 1 false (.tmp 15)⟩,
  ⟨(some 17), (some (14, false)), .call id_ip6_within [(.tmp 16), (.cst (LV.int .i64 255))]⟩,
  ⟨(some 18), (some (14, false)), .un .not (.tmp 17)⟩,
  ⟨(some 19), none, .pick (.tmp 14) (.cst (LV.bool true)) (.tmp 18)⟩,
  ⟨(some 20), none, .mov (.tmp 19)⟩,
  ⟨(some 21), (some (20, false)), .fieldAddr 10 40 (.tmp 1)⟩,
  ⟨(some 22), (some (20, false)), .load 1 false (.tmp 21)⟩,
  ⟨(some 23), (some (20, false)), .call id_ip6_within [(.tmp 22), (.cst (LV.int .i64 255))]⟩,
  ⟨(some 24), (some (20, false)), .un .not (.tmp 23)⟩,
  ⟨(some 25), none, .pick (.tmp 20) (.cst (LV.bool true)) (.tmp 24)⟩,
  ⟨(some 26), none, .mov (.tmp 25)⟩,
  ⟨(some 27), (some (26, false)), .fieldAddr 8 38 (.tmp 1)⟩,
  ⟨(some 28), (some (26, false)), .load 1 false (.tmp 27)⟩,
  ⟨(some 29), (some (26, false)), .call id_ip6_within [(.tmp 28), (.cst (LV.int .i64 65528))]⟩,
  ⟨(some 30), (some (26, false)), .un .not (.tmp 29)⟩,
  ⟨(some 31), none, .pick (.tmp 26) (.cst (LV.bool true)) (.tmp 30)⟩,
  ⟨(some 32), none, .mov (.tmp 31)⟩,
  ⟨(some 33), (some (32, false)), .fieldAddr 8 38 (.tmp 1)⟩,
  ⟨(some 34), (some (32, false)), .load 1 false (.tmp 33)⟩,
  ⟨(some 35), (some (32, false)), .bin .rem (.tmp 34) (.cst (LV.int .i64 8))⟩,
  ⟨(some 36), (some (32, false)), .bin .neq (.tmp 35) (.cst (LV.int .i64 0))⟩,
  ⟨(some 37), none, .pick (.tmp 32) (.cst (LV.bool true)) (.tmp 36)⟩,
  ⟨(some 3), none, .mov (.tmp 37)⟩] []) (.cond (.tmp 3) (.seq (.reg [
  ⟨(some 2), none, .mov (.cst (LV.int .i64 13))⟩] []) .ret) (.seq (.reg [
  ⟨(some 39), none, .load 42 true (.tmp 1)⟩,
  ⟨(some 40), none, .call id_ip6_kinds [(.tmp 39)]⟩,
  ⟨(some 41), none, .un .not (.tmp 40)⟩,
  ⟨(some 38), none, .mov (.tmp 41)⟩] []) (.cond (.tmp 38) (.seq (.reg [
  ⟨(some 2), none, .mov (.cst (LV.int .i64 10))⟩] []) .ret) (.seq (.reg [
  ⟨(some 43), none, .load 42 true (.tmp 1)⟩,
  ⟨(some 44), none, .call id_ip6_formed [(.tmp 43)]⟩,
  ⟨(some 45), none, .un .not (.tmp 44)⟩,
  ⟨(some 42), none, .mov (.tmp 45)⟩] []) (.cond (.tmp 42) (.seq (.reg [
  ⟨(some 2), none, .mov (.cst (LV.int .i64 8))⟩] []) .ret) (.seq (.reg [
  ⟨(some 47), none, .fieldAddr 5 35 (.tmp 1)⟩,
  ⟨(some 48), none, .load 1 false (.tmp 47)⟩,
  ⟨(some 49), none, .len false (.tmp 48)⟩,
  ⟨(some 50), none, .bin .gtr (.tmp 49) (.cst (LV.int .i64 8))⟩,
  ⟨(some 51), none, .mov (.tmp 50)⟩,
  ⟨(some 52), (some (51, false)), .fieldAddr 11 41 (.tmp 1)⟩,
  ⟨(some 53), (some (51, false)), .load 1 false (.tmp 52)⟩,
  ⟨(some 54), (some (51, false)), .len true (.tmp 53)⟩,
  ⟨(some 55), (some (51, false)), .fieldAddr 8 38 (.tmp 1)⟩,
  ⟨(some 56), (some (51, false)), .load 1 false (.tmp 55)⟩,
  ⟨(some 57), (some (51, false)), .bin .sub (.cst (LV.int .i64 65535)) (.tmp 56)⟩,
  ⟨(some 58), (some (51, false)), .bin .gtr (.tmp 54) (.tmp 57)⟩,
  ⟨(some 59), none, .pick (.tmp 51) (.cst (LV.bool true)) (.tmp 58)⟩,
  ⟨(some 60), none, .mov (.tmp 59)⟩,
  ⟨(some 61), (some (60, false)), .load 42 true (.tmp 1)⟩,
  ⟨(some 62), (some (60, false)), .call id_ip6_size [(.tmp 61)]⟩,
  ⟨(some 63), (some (60, false)), .bin .gtr (.tmp 62) (.cst (LV.int .i64 65535))⟩,
  ⟨(some 64), none, .pick (.tmp 60) (.cst (LV.bool true)) (.tmp 63)⟩,
  ⟨(some 46), none, .mov (.tmp 64)⟩] []) (.cond (.tmp 46) (.seq (.reg [
  ⟨(some 2), none, .mov (.cst (LV.int .i64 3))⟩] []) .ret) .skip))))))))) (.seq (.reg [
  ⟨(some 2), none, .mov (.cst (LV.int .i64 0))⟩] []) .ret))), [.tmp 2]⟩
/-- interpreter/ip6.fault -/
def c_ip6_fault : MFn := ⟨1, 7, (.seq (.reg [
  ⟨(some 2), none, .mov (.cst LV.nili)⟩] []) (.seq (.reg [
  ⟨(some 3), none, .mov (.tmp 0)⟩,
  ⟨(some 4), none, .build (LV.agg [(LV.int .i64 0), (LV.int .i64 0)]) [(0, (.tmp 3))]⟩,
  ⟨(some 5), none, .box (.tmp 4)⟩,
  ⟨(some 6), none, .mkIface ty_ptr_num_Fault (.tmp 5)⟩,
  ⟨(some 2), none, .mov (.tmp 6)⟩] []) .ret)), [.tmp 2]⟩
/-- interpreter/ip6.big -/
def c_ip6_big : MFn := ⟨2, 14, (.seq (.reg [
  ⟨(some 4), none, .mov (.cst (LV.str []))⟩] []) (.seq (.reg [
  ⟨(some 8), none, .mov (.tmp 0)⟩,
  ⟨(some 9), none, .mov (.tmp 1)⟩,
  ⟨(some 10), none, .call id_num_Big [(.tmp 8), (.tmp 9)]⟩,
  ⟨(some 7), none, .mov (.tmp 10)⟩,
  ⟨(some 11), none, .extract (.tmp 7) 0⟩,
  ⟨(some 12), none, .extract (.tmp 7) 1⟩,
  ⟨(some 5), none, .mov (.tmp 11)⟩,
  ⟨(some 6), none, .mov (.tmp 12)⟩] []) (.seq (.reg [
  ⟨(some 13), none, .mov (.tmp 5)⟩,
  ⟨(some 4), none, .mov (.tmp 13)⟩] []) .ret))), [.tmp 4]⟩
/-- interpreter/sum.Right -/
def c_sum_Right : MFn := ⟨1, 6, (.seq (.reg [
  ⟨(some 2), none, .mov (.cst (LV.bool false))⟩] []) (.seq (.reg [
  ⟨(some 3), none, .mov (.tmp 0)⟩,
  ⟨(some 4), none, .call id_sum_Of [(.tmp 3)]⟩,
  ⟨(some 5), none, .bin .eql (.tmp 4) (.cst (LV.int .i64 0))⟩,
  ⟨(some 2), none, .mov (.tmp 5)⟩] []) .ret)), [.tmp 2]⟩
/-- interpreter/ip4.Parse$1 -/
def c_ip4_Parse_1 : MFn := ⟨2, 15, (.seq (.reg [
  ⟨(some 3), none, .mov (.cst (LV.int .i64 0))⟩] []) (.seq (.reg [
  ⟨(some 4), none, .load 1 false (.tmp 1)⟩,
  ⟨(some 5), none, .mov (.tmp 0)⟩,
  ⟨(some 6), none, .idxStr (.tmp 4) (.tmp 5)⟩,
  ⟨(some 7), none, .conv .i64 (.tmp 6)⟩,
  ⟨(some 8), none, .bin .shl (.tmp 7) (.cst (LV.int .u64 8))⟩,
  ⟨(some 9), none, .load 1 false (.tmp 1)⟩,
  ⟨(some 10), none, .mov (.tmp 0)⟩,
  ⟨(some 11), none, .bin .add (.tmp 10) (.cst (LV.int .i64 1))⟩,
  ⟨(some 12), none, .idxStr (.tmp 9) (.tmp 11)⟩,
  ⟨(some 13), none, .conv .i64 (.tmp 12)⟩,
  ⟨(some 14), none, .bin .or (.tmp 8) (.tmp 13)⟩,
  ⟨(some 3), none, .mov (.tmp 14)⟩] []) .ret)), [.tmp 3]⟩
/-- interpreter/num.New -/
def c_num_New : MFn := ⟨1, 6, (.seq (.reg [
  ⟨(some 2), none, .mov (.cst LV.nilp)⟩] []) (.seq (.reg [
  ⟨(some 3), none, .mov (.tmp 0)⟩,
  ⟨(some 4), none, .build (LV.agg [(LV.str []), (LV.int .i64 0), LV.nilp]) [(0, (.tmp 3))]⟩,
  ⟨(some 5), none, .boxM (.tmp 4)⟩,
  ⟨(some 2), none, .mov (.tmp 5)⟩] []) .ret)), [.tmp 2]⟩
/-- (*interpreter/num.Reader).U32 -/
def c_num_Reader_U32 : MFn := ⟨1, 8, (.seq (.reg [
  ⟨(some 2), none, .mov (.cst (LV.int .i64 0))⟩,
  ⟨(some 3), none, .mov (.cst LV.nili)⟩] []) (.seq (.reg [
  ⟨(some 4), none, .mov (.tmp 0)⟩,
  ⟨(some 5), none, .callRw id_num_Reader_number [(.tmp 4), (.cst (LV.int .i64 4))]⟩,
  ⟨(some 6), none, .extract (.tmp 5) 0⟩,
  ⟨(some 7), none, .extract (.tmp 5) 1⟩,
  ⟨(some 2), none, .mov (.tmp 6)⟩,
  ⟨(some 3), none, .mov (.tmp 7)⟩] []) .ret)), [.tmp 2, .tmp 3]⟩
/-- interpreter/ip6.Chain -/
def c_ip6_Chain : MFn := ⟨2, 59, (.seq (.reg [
  ⟨(some 4), none, .mov (.cst LV.nils)⟩,
  ⟨(some 5), none, .mov (.cst (LV.int .i64 0))⟩,
  ⟨(some 6), none, .mov (.cst (LV.str []))⟩,
  ⟨(some 7), none, .mov (.cst LV.nili)⟩] []) (.seq (.block 0 (.loop [4, 5, 6, 7, 0, 1] [10, 11, 8, 9, 12, 13, 14, 15, 16, 17, 18, 19, 20, 22, 23, 24, 25, 26, 27, 28, 21, 30, 31, 32, 29, 34, 35, 36, 37, 33, 38, 39, 40, 41, 42, 43, 44, 45, 46, 47, 48, 49, 50, 51, 52, 53, 54, 55] (.seq (.seq (.reg [
  ⟨(some 10), none, .mov (.tmp 0)⟩,
  ⟨(some 11), none, .call id_ip6_extends [(.tmp 10)]⟩] []) (.cond (.tmp 11) .skip (.exit 0))) (.block 1 (.seq (.reg [
  ⟨(some 8), none, .mov (.cst (LV.int .i64 0))⟩] []) (.seq (.reg [
  ⟨(some 9), none, .mov (.cst (LV.int .i64 8))⟩] []) (.seq (.seq (.reg [
  ⟨(some 12), none, .mov (.tmp 1)⟩,
  ⟨(some 13), none, .len true (.tmp 12)⟩,
  ⟨(some 14), none, .bin .geq (.tmp 13) (.cst (LV.int .i64 2))⟩] []) (.cond (.tmp 14) (.reg [
  ⟨(some 15), none, .mov (.tmp 9)⟩,
  ⟨(some 16), none, .mov (.tmp 1)⟩,
  ⟨(some 17), none, .idxStr (.tmp 16) (.cst (LV.int .i64 1))⟩,
  ⟨(some 18), none, .conv .i64 (.tmp 17)⟩,
  ⟨(some 19), none, .bin .mul (.tmp 18) (.cst (LV.int .i64 8))⟩,
  ⟨(some 20), none, .bin .add (.tmp 15) (.tmp 19)⟩,
  ⟨(some 9), none, .mov (.tmp 20)⟩] []) .skip)) (.seq (.block 2 (.seq (.reg [
  ⟨(some 22), none, .mov (.tmp 0)⟩,
  ⟨(some 23), none, .bin .eql (.tmp 22) (.cst (LV.int .i64 0))⟩,
  ⟨(some 24), none, .mov (.tmp 23)⟩,
  ⟨(some 25), (some (24, true)), .mov (.tmp 4)⟩,
  ⟨(some 26), (some (24, true)), .len false (.tmp 25)⟩,
  ⟨(some 27), (some (24, true)), .bin .gtr (.tmp 26) (.cst (LV.int .i64 0))⟩,
  ⟨(some 28), none, .pick (.tmp 24) (.tmp 27) (.cst (LV.bool false))⟩,
  ⟨(some 21), none, .mov (.tmp 28)⟩] []) (.cond (.tmp 21) (.reg [
  ⟨(some 8), none, .mov (.cst (LV.int .i64 8))⟩] []) (.seq (.reg [
  ⟨(some 30), none, .mov (.tmp 4)⟩,
  ⟨(some 31), none, .len false (.tmp 30)⟩,
  ⟨(some 32), none, .bin .geq (.tmp 31) (.cst (LV.int .i64 8))⟩,
  ⟨(some 29), none, .mov (.tmp 32)⟩] []) (.cond (.tmp 29) (.reg [
  ⟨(some 8), none, .mov (.cst (LV.int .i64 3))⟩] []) (.seq (.reg [
  ⟨(some 34), none, .mov (.tmp 1)⟩,
  ⟨(some 35), none, .len true (.tmp 34)⟩,
  ⟨(some 36), none, .mov (.tmp 9)⟩,
  ⟨(some 37), none, .bin .lss (.tmp 35) (.tmp 36)⟩,
  ⟨(some 33), none, .mov (.tmp 37)⟩] []) (.cond (.tmp 33) (.reg [
  ⟨(some 8), none, .mov (.cst (LV.int .i64 7))⟩] []) .skip))))))) (.seq (.seq (.reg [
  ⟨(some 38), none, .mov (.tmp 8)⟩,
  ⟨(some 39), none, .bin .neq (.tmp 38) (.cst (LV.int .i64 0))⟩] []) (.cond (.tmp 39) (.seq (.reg [
  ⟨(some 40), none, .mov (.tmp 8)⟩,
  ⟨(some 41), none, .call id_ip6_fault [(.tmp 40)]⟩,
  ⟨(some 4), none, .mov (.cst LV.nils)⟩,
  ⟨(some 5), none, .mov (.cst (LV.int .i64 0))⟩,
  ⟨(some 6), none, .mov (.cst (LV.str []))⟩,
  ⟨(some 7), none, .mov (.tmp 41)⟩] []) .ret) .skip)) (.seq (.reg [
  ⟨(some 42), none, .mov (.tmp 4)⟩,
  ⟨(some 43), none, .mov (.tmp 0)⟩,
  ⟨(some 44), none, .mov (.tmp 1)⟩,
  ⟨(some 45), none, .mov (.tmp 9)⟩,
  ⟨(some 46), none, .slc 0 (.tmp 44) (some (.cst (LV.int .i64 2))) (some (.tmp 45))⟩,
  ⟨(some 47), none, .build (LV.agg [(LV.int .i64 0), (LV.str [])]) [(0, (.tmp 43)), (1, (.tmp 46))]⟩,
  ⟨(some 48), none, .bsl (LV.agg [(LV.int .i64 0), (LV.str [])]) 1 [(0, (.tmp 47))]⟩,
  ⟨(some 49), none, .append 2 24 (.tmp 42) (.tmp 48)⟩,
  ⟨(some 4), none, .mov (.tmp 49)⟩] []) (.reg [
  ⟨(some 50), none, .mov (.tmp 1)⟩,
  ⟨(some 51), none, .idxStr (.tmp 50) (.cst (LV.int .i64 0))⟩,
  ⟨(some 52), none, .conv .i64 (.tmp 51)⟩,
  ⟨(some 53), none, .mov (.tmp 1)⟩,
  ⟨(some 54), none, .mov (.tmp 9)⟩,
  ⟨(some 55), none, .slc 0 (.tmp 53) (some (.tmp 54)) none⟩,
  ⟨(some 0), none, .mov (.tmp 52)⟩,
  ⟨(some 1), none, .mov (.tmp 55)⟩] []))))))))))) (.seq (.reg [
  ⟨(some 56), none, .mov (.tmp 4)⟩,
  ⟨(some 57), none, .mov (.tmp 0)⟩,
  ⟨(some 58), none, .mov (.tmp 1)⟩,
  ⟨(some 4), none, .mov (.tmp 56)⟩,
  ⟨(some 5), none, .mov (.tmp 57)⟩,
  ⟨(some 6), none, .mov (.tmp 58)⟩,
  ⟨(some 7), none, .mov (.cst LV.nili)⟩] []) .ret))), [.tmp 4, .tmp 5, .tmp 6, .tmp 7]⟩
/-- interpreter/ip6.pieced -/
def c_ip6_pieced : MFn := ⟨1, 18, (.seq (.reg [
  ⟨(some 1), none, .box (.tmp 0)⟩,
  ⟨(some 2), none, .mov (.cst (LV.bool false))⟩] []) (.seq (.reg [
  ⟨(some 3), none, .fieldAddr 9 39 (.tmp 1)⟩,
  ⟨(some 4), none, .load 1 false (.tmp 3)⟩,
  ⟨(some 5), none, .un .not (.tmp 4)⟩,
  ⟨(some 6), none, .mov (.tmp 5)⟩,
  ⟨(some 7), (some (6, false)), .fieldAddr 11 41 (.tmp 1)⟩,
  ⟨(some 8), (some (6, false)), .load 1 false (.tmp 7)⟩,
  ⟨(some 9), (some (6, false)), .bin .neq (.tmp 8) (.cst (LV.str []))⟩,
  ⟨(some 10), (some (6, false)), .mov (.tmp 9)⟩,
  ⟨(some 11), (some (10, true)), .fieldAddr 11 41 (.tmp 1)⟩,
  ⟨(some 12), (some (10, true)), .load 1 false (.tmp 11)⟩,
  ⟨(some 13), (some (10, true)), .len true (.tmp 12)⟩,
  ⟨(some 14), (some (10, true)), .bin .rem (.tmp 13) (.cst (LV.int .i64 8))⟩,
  ⟨(some 15), (some (10, true)), .bin .eql (.tmp 14) (.cst (LV.int .i64 0))⟩,
  ⟨(some 16), (some (6, false)), .pick (.tmp 10) (.tmp 15) (.cst (LV.bool false))⟩,
  ⟨(some 17), none, .pick (.tmp 6) (.cst (LV.bool true)) (.tmp 16)⟩,
  ⟨(some 2), none, .mov (.tmp 17)⟩] []) .ret)), [.tmp 2]⟩
/-- interpreter/ip4.byteful -/
def c_ip4_byteful : MFn := ⟨1, 18, (.seq (.reg [
  ⟨(some 2), none, .mov (.cst (LV.bool false))⟩] []) (.seq (.seq (.reg [
  ⟨(some 5), none, .mov (.tmp 0)⟩,
  ⟨(some 6), none, .len false (.tmp 5)⟩,
  ⟨(some 7), none, .mov (.cst (LV.int .i64 0))⟩] []) (.block 0 (.loop [2, 7] [8, 9, 10, 4, 11, 12, 13, 14, 15, 16, 17] (.seq (.reg [
  ⟨(some 8), none, .bin .lss (.tmp 7) (.tmp 6)⟩] []) (.seq (.cond (.tmp 8) .skip (.exit 0)) (.seq (.block 1 (.seq (.reg [
  ⟨(some 9), none, .idxAddr none 1 (.tmp 5) (.tmp 7)⟩,
  ⟨(some 10), none, .load 1 false (.tmp 9)⟩,
  ⟨(some 4), none, .mov (.tmp 10)⟩] []) (.seq (.reg [
  ⟨(some 11), none, .mov (.tmp 4)⟩,
  ⟨(some 12), none, .bin .lss (.tmp 11) (.cst (LV.int .i64 0))⟩,
  ⟨(some 13), none, .mov (.tmp 12)⟩,
  ⟨(some 14), (some (13, false)), .mov (.tmp 4)⟩,
  ⟨(some 15), (some (13, false)), .bin .gtr (.tmp 14) (.cst (LV.int .i64 255))⟩,
  ⟨(some 16), none, .pick (.tmp 13) (.cst (LV.bool true)) (.tmp 15)⟩] []) (.cond (.tmp 16) (.seq (.reg [
  ⟨(some 2), none, .mov (.cst (LV.bool false))⟩] []) .ret) .skip)))) (.reg [
  ⟨(some 17), none, .bin .add (.tmp 7) (.cst (LV.int .i64 1))⟩,
  ⟨(some 7), none, .mov (.tmp 17)⟩] []))))))) (.seq (.reg [
  ⟨(some 2), none, .mov (.cst (LV.bool true))⟩] []) .ret))), [.tmp 2]⟩
/-- interpreter/num.Big -/
def c_num_Big : MFn := ⟨2, 55, (.seq (.reg [
  ⟨(some 4), none, .mov (.cst (LV.str []))⟩,
  ⟨(some 5), none, .mov (.cst LV.nili)⟩] []) (.seq (.block 0 (.seq (.reg [
  ⟨(some 9), none, .mov (.tmp 1)⟩,
  ⟨(some 10), none, .bin .neq (.tmp 9) (.cst (LV.int .i64 1))⟩,
  ⟨(some 11), none, .mov (.tmp 10)⟩,
  ⟨(some 12), (some (11, true)), .mov (.tmp 1)⟩,
  ⟨(some 13), (some (11, true)), .bin .neq (.tmp 12) (.cst (LV.int .i64 2))⟩,
  ⟨(some 14), none, .pick (.tmp 11) (.tmp 13) (.cst (LV.bool false))⟩,
  ⟨(some 15), none, .mov (.tmp 14)⟩,
  ⟨(some 16), (some (15, true)), .mov (.tmp 1)⟩,
  ⟨(some 17), (some (15, true)), .bin .neq (.tmp 16) (.cst (LV.int .i64 4))⟩,
  ⟨(some 18), none, .pick (.tmp 15) (.tmp 17) (.cst (LV.bool false))⟩,
  ⟨(some 8), none, .mov (.tmp 18)⟩] []) (.cond (.tmp 8) (.seq (.reg [
  ⟨(some 19), none, .build (LV.agg [(LV.int .i64 0), (LV.int .i64 0)]) [(0, (.cst (LV.int .i64 1)))]⟩,
  ⟨(some 20), none, .box (.tmp 19)⟩,
  ⟨(some 21), none, .mkIface ty_ptr_num_Fault (.tmp 20)⟩,
  ⟨(some 4), none, .mov (.cst (LV.str []))⟩,
  ⟨(some 5), none, .mov (.tmp 21)⟩] []) .ret) (.seq (.reg [
  ⟨(some 23), none, .mov (.tmp 0)⟩,
  ⟨(some 24), none, .bin .lss (.tmp 23) (.cst (LV.int .i64 0))⟩,
  ⟨(some 25), none, .mov (.tmp 24)⟩,
  ⟨(some 26), (some (25, false)), .mov (.tmp 0)⟩,
  ⟨(some 27), (some (25, false)), .mov (.tmp 1)⟩,
  ⟨(some 28), (some (25, false)), .bin .mul (.cst (LV.int .i64 8)) (.tmp 27)⟩,
  ⟨(some 29), (some (25, false)), .bin .shl (.cst (LV.int .i64 1)) (.tmp 28)⟩,
  ⟨(some 30), (some (25, false)), .bin .geq (.tmp 26) (.tmp 29)⟩,
  ⟨(some 31), none, .pick (.tmp 25) (.cst (LV.bool true)) (.tmp 30)⟩,
  ⟨(some 22), none, .mov (.tmp 31)⟩] []) (.cond (.tmp 22) (.seq (.reg [
  ⟨(some 32), none, .build (LV.agg [(LV.int .i64 0), (LV.int .i64 0)]) [(0, (.cst (LV.int .i64 13)))]⟩,
  ⟨(some 33), none, .box (.tmp 32)⟩,
  ⟨(some 34), none, .mkIface ty_ptr_num_Fault (.tmp 33)⟩,
  ⟨(some 4), none, .mov (.cst (LV.str []))⟩,
  ⟨(some 5), none, .mov (.tmp 34)⟩] []) .ret) .skip))))) (.seq (.reg [
  ⟨(some 35), none, .mov (.tmp 1)⟩,
  ⟨(some 36), none, .mkSl (.tmp 35) (.tmp 35)⟩,
  ⟨(some 6), none, .mov (.tmp 36)⟩] []) (.seq (.seq (.reg [
  ⟨(some 37), none, .mov (.tmp 1)⟩,
  ⟨(some 38), none, .mov (.cst (LV.int .i64 0))⟩] []) (.block 1 (.loop [38] [39, 40, 7, 41, 42, 43, 44, 45, 46, 47, 48, 49, 50, 51, 52] (.seq (.reg [
  ⟨(some 39), none, .bin .lss (.tmp 38) (.tmp 37)⟩] []) (.seq (.cond (.tmp 39) .skip (.exit 1)) (.seq (.block 2 (.seq (.reg [
  ⟨(some 40), none, .mov (.tmp 38)⟩,
  ⟨(some 7), none, .mov (.tmp 40)⟩] []) (.reg [
  ⟨(some 41), none, .mov (.tmp 6)⟩,
  ⟨(some 42), none, .mov (.tmp 7)⟩,
  ⟨(some 43), none, .mov (.tmp 0)⟩,
  ⟨(some 44), none, .mov (.tmp 1)⟩,
  ⟨(some 45), none, .bin .sub (.tmp 44) (.cst (LV.int .i64 1))⟩,
  ⟨(some 46), none, .mov (.tmp 7)⟩,
  ⟨(some 47), none, .bin .sub (.tmp 45) (.tmp 46)⟩,
  ⟨(some 48), none, .bin .mul (.cst (LV.int .i64 8)) (.tmp 47)⟩,
  ⟨(some 49), none, .bin .shr (.tmp 43) (.tmp 48)⟩,
  ⟨(some 50), none, .conv .u8 (.tmp 49)⟩,
  ⟨(some 51), none, .idxAddr none 1 (.tmp 41) (.tmp 42)⟩,
  ⟨none, none, .store 1 false (.tmp 51) (.tmp 50)⟩] []))) (.reg [
  ⟨(some 52), none, .bin .add (.tmp 38) (.cst (LV.int .i64 1))⟩,
  ⟨(some 38), none, .mov (.tmp 52)⟩] []))))))) (.seq (.reg [
  ⟨(some 53), none, .mov (.tmp 6)⟩,
  ⟨(some 54), none, .b2s (.tmp 53)⟩,
  ⟨(some 4), none, .mov (.tmp 54)⟩,
  ⟨(some 5), none, .mov (.cst LV.nili)⟩] []) .ret))))), [.tmp 4, .tmp 5]⟩
/-- interpreter/sum.fold -/
def c_sum_fold : MFn := ⟨1, 11, (.seq (.reg [
  ⟨(some 2), none, .mov (.cst (LV.int .i64 0))⟩] []) (.seq (.block 0 (.loop [0] [3, 4, 5, 6, 7, 8, 9] (.seq (.seq (.reg [
  ⟨(some 3), none, .mov (.tmp 0)⟩,
  ⟨(some 4), none, .bin .gtr (.tmp 3) (.cst (LV.int .i64 65535))⟩] []) (.cond (.tmp 4) .skip (.exit 0))) (.block 1 (.reg [
  ⟨(some 5), none, .mov (.tmp 0)⟩,
  ⟨(some 6), none, .bin .shr (.tmp 5) (.cst (LV.int .u64 16))⟩,
  ⟨(some 7), none, .mov (.tmp 0)⟩,
  ⟨(some 8), none, .bin .and (.tmp 7) (.cst (LV.int .i64 65535))⟩,
  ⟨(some 9), none, .bin .add (.tmp 6) (.tmp 8)⟩,
  ⟨(some 0), none, .mov (.tmp 9)⟩] []))))) (.seq (.reg [
  ⟨(some 10), none, .mov (.tmp 0)⟩,
  ⟨(some 2), none, .mov (.tmp 10)⟩] []) .ret))), [.tmp 2]⟩
/-- interpreter/sum.add -/
def c_sum_add : MFn := ⟨4, 34, (.seq (.reg [
  ⟨(some 8), none, .mov (.cst (LV.int .i64 0))⟩] []) (.seq (.seq (.reg [
  ⟨(some 11), none, .mov (.tmp 2)⟩,
  ⟨(some 12), none, .len true (.tmp 11)⟩,
  ⟨(some 13), none, .mov (.cst (LV.int .i64 0))⟩] []) (.block 0 (.loop [0, 13] [14, 15, 9, 16, 17, 18, 19, 20, 21, 10, 22, 23, 24, 25, 26, 27, 28, 29, 30, 31, 32] (.seq (.reg [
  ⟨(some 14), none, .bin .lss (.tmp 13) (.tmp 12)⟩] []) (.seq (.cond (.tmp 14) .skip (.exit 0)) (.seq (.block 1 (.seq (.reg [
  ⟨(some 15), none, .mov (.tmp 13)⟩,
  ⟨(some 9), none, .mov (.tmp 15)⟩] []) (.seq (.reg [
  ⟨(some 16), none, .mov (.tmp 2)⟩,
  ⟨(some 17), none, .mov (.tmp 9)⟩,
  ⟨(some 18), none, .idxStr (.tmp 16) (.tmp 17)⟩,
  ⟨(some 19), none, .mov (.tmp 3)⟩,
  ⟨(some 20), none, .bin .xor (.tmp 18) (.tmp 19)⟩,
  ⟨(some 21), none, .conv .i64 (.tmp 20)⟩,
  ⟨(some 10), none, .mov (.tmp 21)⟩] []) (.seq (.seq (.reg [
  ⟨(some 22), none, .mov (.tmp 1)⟩,
  ⟨(some 23), none, .mov (.tmp 9)⟩,
  ⟨(some 24), none, .bin .add (.tmp 22) (.tmp 23)⟩,
  ⟨(some 25), none, .bin .rem (.tmp 24) (.cst (LV.int .i64 2))⟩,
  ⟨(some 26), none, .bin .eql (.tmp 25) (.cst (LV.int .i64 0))⟩] []) (.cond (.tmp 26) (.reg [
  ⟨(some 27), none, .mov (.tmp 10)⟩,
  ⟨(some 28), none, .bin .shl (.tmp 27) (.cst (LV.int .u64 8))⟩,
  ⟨(some 10), none, .mov (.tmp 28)⟩] []) .skip)) (.reg [
  ⟨(some 29), none, .mov (.tmp 0)⟩,
  ⟨(some 30), none, .mov (.tmp 10)⟩,
  ⟨(some 31), none, .bin .add (.tmp 29) (.tmp 30)⟩,
  ⟨(some 0), none, .mov (.tmp 31)⟩] []))))) (.reg [
  ⟨(some 32), none, .bin .add (.tmp 13) (.cst (LV.int .i64 1))⟩,
  ⟨(some 13), none, .mov (.tmp 32)⟩] []))))))) (.seq (.reg [
  ⟨(some 33), none, .mov (.tmp 0)⟩,
  ⟨(some 8), none, .mov (.tmp 33)⟩] []) .ret))), [.tmp 8]⟩
/-- interpreter/ip6.within -/
def c_ip6_within : MFn := ⟨2, 12, (.seq (.reg [
  ⟨(some 4), none, .mov (.cst (LV.bool false))⟩] []) (.seq (.reg [
  ⟨(some 5), none, .mov (.tmp 0)⟩,
  ⟨(some 6), none, .bin .geq (.tmp 5) (.cst (LV.int .i64 0))⟩,
  ⟨(some 7), none, .mov (.tmp 6)⟩,
  ⟨(some 8), (some (7, true)), .mov (.tmp 0)⟩,
  ⟨(some 9), (some (7, true)), .mov (.tmp 1)⟩,
  ⟨(some 10), (some (7, true)), .bin .leq (.tmp 8) (.tmp 9)⟩,
  ⟨(some 11), none, .pick (.tmp 7) (.tmp 10) (.cst (LV.bool false))⟩,
  ⟨(some 4), none, .mov (.tmp 11)⟩] []) .ret)), [.tmp 4]⟩
/-- interpreter/ip6.kinds -/
def c_ip6_kinds : MFn := ⟨1, 30, (.seq (.reg [
  ⟨(some 1), none, .box (.tmp 0)⟩,
  ⟨(some 2), none, .mov (.cst (LV.bool false))⟩] []) (.seq (.seq (.reg [
  ⟨(some 5), none, .fieldAddr 5 35 (.tmp 1)⟩,
  ⟨(some 6), none, .load 1 false (.tmp 5)⟩,
  ⟨(some 7), none, .len false (.tmp 6)⟩,
  ⟨(some 8), none, .mov (.cst (LV.int .i64 0))⟩] []) (.block 0 (.loop [2, 8] [9, 10, 11, 4, 12, 13, 14, 15, 16] (.seq (.reg [
  ⟨(some 9), none, .bin .lss (.tmp 8) (.tmp 7)⟩] []) (.seq (.cond (.tmp 9) .skip (.exit 0)) (.seq (.block 1 (.seq (.reg [
  ⟨(some 10), none, .idxAddr none 2 (.tmp 6) (.tmp 8)⟩,
  ⟨(some 11), none, .load 2 true (.tmp 10)⟩,
  ⟨(some 4), none, .alloc (LV.agg [(LV.int .i64 0), (LV.str [])])⟩,
  ⟨none, none, .store 2 true (.tmp 4) (.tmp 11)⟩] []) (.seq (.reg [
  ⟨(some 12), none, .fieldAddr 0 0 (.tmp 4)⟩,
  ⟨(some 13), none, .load 1 false (.tmp 12)⟩,
  ⟨(some 14), none, .call id_ip6_extends [(.tmp 13)]⟩,
  ⟨(some 15), none, .un .not (.tmp 14)⟩] []) (.cond (.tmp 15) (.seq (.reg [
  ⟨(some 2), none, .mov (.cst (LV.bool false))⟩] []) .ret) .skip)))) (.reg [
  ⟨(some 16), none, .bin .add (.tmp 8) (.cst (LV.int .i64 1))⟩,
  ⟨(some 8), none, .mov (.tmp 16)⟩] []))))))) (.seq (.reg [
  ⟨(some 17), none, .fieldAddr 6 36 (.tmp 1)⟩,
  ⟨(some 18), none, .load 1 false (.tmp 17)⟩,
  ⟨(some 19), none, .mov (.tmp 18)⟩,
  ⟨(some 20), (some (19, false)), .fieldAddr 10 40 (.tmp 1)⟩,
  ⟨(some 21), (some (19, false)), .load 1 false (.tmp 20)⟩,
  ⟨(some 22), (some (19, false)), .call id_ip6_extends [(.tmp 21)]⟩,
  ⟨(some 23), (some (19, false)), .un .not (.tmp 22)⟩,
  ⟨(some 24), (some (19, false)), .mov (.tmp 23)⟩,
  ⟨(some 25), (some (24, true)), .fieldAddr 10 40 (.tmp 1)⟩,
  ⟨(some 26), (some (24, true)), .load 1 false (.tmp 25)⟩,
  ⟨(some 27), (some (24, true)), .bin .neq (.tmp 26) (.cst (LV.int .i64 44))⟩,
  ⟨(some 28), (some (19, false)), .pick (.tmp 24) (.tmp 27) (.cst (LV.bool false))⟩,
  ⟨(some 29), none, .pick (.tmp 19) (.cst (LV.bool true)) (.tmp 28)⟩,
  ⟨(some 2), none, .mov (.tmp 29)⟩] []) .ret))), [.tmp 2]⟩
/-- interpreter/ip6.formed -/
def c_ip6_formed : MFn := ⟨1, 51, (.seq (.reg [
  ⟨(some 1), none, .box (.tmp 0)⟩,
  ⟨(some 2), none, .mov (.cst (LV.bool false))⟩] []) (.seq (.seq (.reg [
  ⟨(some 5), none, .fieldAddr 5 35 (.tmp 1)⟩,
  ⟨(some 6), none, .load 1 false (.tmp 5)⟩,
  ⟨(some 7), none, .len false (.tmp 6)⟩,
  ⟨(some 8), none, .mov (.cst (LV.int .i64 0))⟩] []) (.block 0 (.loop [2, 8] [9, 10, 11, 12, 4, 3, 13, 14, 15, 16, 17, 18, 19, 20, 21, 22, 23, 24, 25, 26, 27, 28, 29, 30, 31, 32, 33] (.seq (.reg [
  ⟨(some 9), none, .bin .lss (.tmp 8) (.tmp 7)⟩] []) (.seq (.cond (.tmp 9) .skip (.exit 0)) (.seq (.block 1 (.seq (.reg [
  ⟨(some 10), none, .mov (.tmp 8)⟩,
  ⟨(some 11), none, .idxAddr none 2 (.tmp 6) (.tmp 8)⟩,
  ⟨(some 12), none, .load 2 true (.tmp 11)⟩,
  ⟨(some 4), none, .alloc (LV.agg [(LV.int .i64 0), (LV.str [])])⟩,
  ⟨(some 3), none, .mov (.tmp 10)⟩,
  ⟨none, none, .store 2 true (.tmp 4) (.tmp 12)⟩] []) (.seq (.reg [
  ⟨(some 13), none, .fieldAddr 1 1 (.tmp 4)⟩,
  ⟨(some 14), none, .load 1 false (.tmp 13)⟩,
  ⟨(some 15), none, .len true (.tmp 14)⟩,
  ⟨(some 16), none, .bin .rem (.tmp 15) (.cst (LV.int .i64 8))⟩,
  ⟨(some 17), none, .bin .neq (.tmp 16) (.cst (LV.int .i64 6))⟩,
  ⟨(some 18), none, .mov (.tmp 17)⟩,
  ⟨(some 19), (some (18, false)), .fieldAddr 1 1 (.tmp 4)⟩,
  ⟨(some 20), (some (18, false)), .load 1 false (.tmp 19)⟩,
  ⟨(some 21), (some (18, false)), .len true (.tmp 20)⟩,
  ⟨(some 22), (some (18, false)), .bin .gtr (.tmp 21) (.cst (LV.int .i64 2046))⟩,
  ⟨(some 23), none, .pick (.tmp 18) (.cst (LV.bool true)) (.tmp 22)⟩,
  ⟨(some 24), none, .mov (.tmp 23)⟩,
  ⟨(some 25), (some (24, false)), .fieldAddr 0 0 (.tmp 4)⟩,
  ⟨(some 26), (some (24, false)), .load 1 false (.tmp 25)⟩,
  ⟨(some 27), (some (24, false)), .bin .eql (.tmp 26) (.cst (LV.int .i64 0))⟩,
  ⟨(some 28), (some (24, false)), .mov (.tmp 27)⟩,
  ⟨(some 29), (some (28, true)), .mov (.tmp 3)⟩,
  ⟨(some 30), (some (28, true)), .bin .gtr (.tmp 29) (.cst (LV.int .i64 0))⟩,
  ⟨(some 31), (some (24, false)), .pick (.tmp 28) (.tmp 30) (.cst (LV.bool false))⟩,
  ⟨(some 32), none, .pick (.tmp 24) (.cst (LV.bool true)) (.tmp 31)⟩] []) (.cond (.tmp 32) (.seq (.reg [
  ⟨(some 2), none, .mov (.cst (LV.bool false))⟩] []) .ret) .skip)))) (.reg [
  ⟨(some 33), none, .bin .add (.tmp 8) (.cst (LV.int .i64 1))⟩,
  ⟨(some 8), none, .mov (.tmp 33)⟩] []))))))) (.seq (.seq (.reg [
  ⟨(some 34), none, .fieldAddr 6 36 (.tmp 1)⟩,
  ⟨(some 35), none, .load 1 false (.tmp 34)⟩] []) (.cond (.tmp 35) (.seq (.reg [
  ⟨(some 36), none, .load 42 true (.tmp 1)⟩,
  ⟨(some 37), none, .call id_ip6_pieced [(.tmp 36)]⟩,
  ⟨(some 2), none, .mov (.tmp 37)⟩] []) .ret) .skip)) (.seq (.reg [
  ⟨(some 38), none, .fieldAddr 7 37 (.tmp 1)⟩,
  ⟨(some 39), none, .load 1 false (.tmp 38)⟩,
  ⟨(some 40), none, .bin .eql (.tmp 39) (.cst (LV.int .u32 0))⟩,
  ⟨(some 41), none, .mov (.tmp 40)⟩,
  ⟨(some 42), (some (41, true)), .fieldAddr 8 38 (.tmp 1)⟩,
  ⟨(some 43), (some (41, true)), .load 1 false (.tmp 42)⟩,
  ⟨(some 44), (some (41, true)), .bin .eql (.tmp 43) (.cst (LV.int .i64 0))⟩,
  ⟨(some 45), none, .pick (.tmp 41) (.tmp 44) (.cst (LV.bool false))⟩,
  ⟨(some 46), none, .mov (.tmp 45)⟩,
  ⟨(some 47), (some (46, true)), .fieldAddr 9 39 (.tmp 1)⟩,
  ⟨(some 48), (some (46, true)), .load 1 false (.tmp 47)⟩,
  ⟨(some 49), (some (46, true)), .un .not (.tmp 48)⟩,
  ⟨(some 50), none, .pick (.tmp 46) (.tmp 49) (.cst (LV.bool false))⟩,
  ⟨(some 2), none, .mov (.tmp 50)⟩] []) .ret)))), [.tmp 2]⟩
/-- interpreter/ip6.size -/
def c_ip6_size : MFn := ⟨1, 28, (.seq (.reg [
  ⟨(some 1), none, .box (.tmp 0)⟩,
  ⟨(some 2), none, .mov (.cst (LV.int .i64 0))⟩] []) (.seq (.reg [
  ⟨(some 6), none, .fieldAddr 11 41 (.tmp 1)⟩,
  ⟨(some 7), none, .load 1 false (.tmp 6)⟩,
  ⟨(some 8), none, .len true (.tmp 7)⟩,
  ⟨(some 3), none, .mov (.tmp 8)⟩] []) (.seq (.seq (.reg [
  ⟨(some 9), none, .fieldAddr 6 36 (.tmp 1)⟩,
  ⟨(some 10), none, .load 1 false (.tmp 9)⟩] []) (.cond (.tmp 10) (.reg [
  ⟨(some 11), none, .mov (.tmp 3)⟩,
  ⟨(some 12), none, .bin .add (.tmp 11) (.cst (LV.int .i64 8))⟩,
  ⟨(some 3), none, .mov (.tmp 12)⟩] []) .skip)) (.seq (.seq (.reg [
  ⟨(some 13), none, .fieldAddr 5 35 (.tmp 1)⟩,
  ⟨(some 14), none, .load 1 false (.tmp 13)⟩,
  ⟨(some 15), none, .len false (.tmp 14)⟩,
  ⟨(some 16), none, .mov (.cst (LV.int .i64 0))⟩] []) (.block 0 (.loop [3, 16] [17, 18, 19, 5, 20, 21, 22, 23, 24, 25, 26] (.seq (.reg [
  ⟨(some 17), none, .bin .lss (.tmp 16) (.tmp 15)⟩] []) (.seq (.cond (.tmp 17) .skip (.exit 0)) (.seq (.block 1 (.seq (.reg [
  ⟨(some 18), none, .idxAddr none 2 (.tmp 14) (.tmp 16)⟩,
  ⟨(some 19), none, .load 2 true (.tmp 18)⟩,
  ⟨(some 5), none, .alloc (LV.agg [(LV.int .i64 0), (LV.str [])])⟩,
  ⟨none, none, .store 2 true (.tmp 5) (.tmp 19)⟩] []) (.reg [
  ⟨(some 20), none, .mov (.tmp 3)⟩,
  ⟨(some 21), none, .fieldAddr 1 1 (.tmp 5)⟩,
  ⟨(some 22), none, .load 1 false (.tmp 21)⟩,
  ⟨(some 23), none, .len true (.tmp 22)⟩,
  ⟨(some 24), none, .bin .add (.tmp 23) (.cst (LV.int .i64 2))⟩,
  ⟨(some 25), none, .bin .add (.tmp 20) (.tmp 24)⟩,
  ⟨(some 3), none, .mov (.tmp 25)⟩] []))) (.reg [
  ⟨(some 26), none, .bin .add (.tmp 16) (.cst (LV.int .i64 1))⟩,
  ⟨(some 16), none, .mov (.tmp 26)⟩] []))))))) (.seq (.reg [
  ⟨(some 27), none, .mov (.tmp 3)⟩,
  ⟨(some 2), none, .mov (.tmp 27)⟩] []) .ret))))), [.tmp 2]⟩
/-- (*interpreter/num.Reader).number -/
def c_num_Reader_number : MFn := ⟨2, 31, (.seq (.reg [
  ⟨(some 4), none, .mov (.cst (LV.int .i64 0))⟩,
  ⟨(some 5), none, .mov (.cst LV.nili)⟩] []) (.seq (.reg [
  ⟨(some 11), none, .mov (.tmp 0)⟩,
  ⟨(some 12), none, .mov (.tmp 1)⟩,
  ⟨(some 13), none, .callRw id_num_Reader_Text [(.tmp 11), (.tmp 12)]⟩,
  ⟨(some 10), none, .mov (.tmp 13)⟩,
  ⟨(some 14), none, .extract (.tmp 10) 0⟩,
  ⟨(some 15), none, .extract (.tmp 10) 1⟩,
  ⟨(some 6), none, .mov (.tmp 14)⟩,
  ⟨(some 7), none, .mov (.tmp 15)⟩] []) (.seq (.reg [
  ⟨(some 8), none, .mov (.cst (LV.int .i64 0))⟩] []) (.seq (.seq (.reg [
  ⟨(some 16), none, .mov (.tmp 6)⟩,
  ⟨(some 17), none, .len true (.tmp 16)⟩,
  ⟨(some 18), none, .mov (.cst (LV.int .i64 0))⟩] []) (.block 0 (.loop [8, 18] [19, 20, 9, 21, 22, 23, 24, 25, 26, 27, 28] (.seq (.reg [
  ⟨(some 19), none, .bin .lss (.tmp 18) (.tmp 17)⟩] []) (.seq (.cond (.tmp 19) .skip (.exit 0)) (.seq (.block 1 (.seq (.reg [
  ⟨(some 20), none, .mov (.tmp 18)⟩,
  ⟨(some 9), none, .mov (.tmp 20)⟩] []) (.reg [
  ⟨(some 21), none, .mov (.tmp 8)⟩,
  ⟨(some 22), none, .bin .shl (.tmp 21) (.cst (LV.int .u64 8))⟩,
  ⟨(some 23), none, .mov (.tmp 6)⟩,
  ⟨(some 24), none, .mov (.tmp 9)⟩,
  ⟨(some 25), none, .idxStr (.tmp 23) (.tmp 24)⟩,
  ⟨(some 26), none, .conv .i64 (.tmp 25)⟩,
  ⟨(some 27), none, .bin .or (.tmp 22) (.tmp 26)⟩,
  ⟨(some 8), none, .mov (.tmp 27)⟩] []))) (.reg [
  ⟨(some 28), none, .bin .add (.tmp 18) (.cst (LV.int .i64 1))⟩,
  ⟨(some 18), none, .mov (.tmp 28)⟩] []))))))) (.seq (.reg [
  ⟨(some 29), none, .mov (.tmp 8)⟩,
  ⟨(some 30), none, .mov (.tmp 7)⟩,
  ⟨(some 4), none, .mov (.tmp 29)⟩,
  ⟨(some 5), none, .mov (.tmp 30)⟩] []) .ret))))), [.tmp 4, .tmp 5]⟩
/-- interpreter/ip6.extends -/
def c_ip6_extends : MFn := ⟨1, 13, (.seq (.reg [
  ⟨(some 2), none, .mov (.cst (LV.bool false))⟩] []) (.seq (.reg [
  ⟨(some 3), none, .mov (.tmp 0)⟩,
  ⟨(some 4), none, .bin .eql (.tmp 3) (.cst (LV.int .i64 0))⟩,
  ⟨(some 5), none, .mov (.tmp 4)⟩,
  ⟨(some 6), (some (5, false)), .mov (.tmp 0)⟩,
  ⟨(some 7), (some (5, false)), .bin .eql (.tmp 6) (.cst (LV.int .i64 43))⟩,
  ⟨(some 8), none, .pick (.tmp 5) (.cst (LV.bool true)) (.tmp 7)⟩,
  ⟨(some 9), none, .mov (.tmp 8)⟩,
  ⟨(some 10), (some (9, false)), .mov (.tmp 0)⟩,
  ⟨(some 11), (some (9, false)), .bin .eql (.tmp 10) (.cst (LV.int .i64 60))⟩,
  ⟨(some 12), none, .pick (.tmp 9) (.cst (LV.bool true)) (.tmp 11)⟩,
  ⟨(some 2), none, .mov (.tmp 12)⟩] []) .ret)), [.tmp 2]⟩
/-- (*interpreter/num.Reader).Text -/
def c_num_Reader_Text : MFn := ⟨2, 85, (.seq (.reg [
  ⟨(some 4), none, .mov (.cst (LV.str []))⟩,
  ⟨(some 5), none, .mov (.cst LV.nili)⟩] []) (.seq (.block 0 (.seq (.reg [
  ⟨(some 33), none, .mov (.tmp 0)⟩,
  ⟨(some 34), none, .eqNil 0 false (.tmp 33)⟩,
  ⟨(some 32), none, .mov (.tmp 34)⟩] []) (.cond (.tmp 32) (.seq (.reg [
  ⟨(some 35), none, .build (LV.agg [(LV.int .i64 0), (LV.int .i64 0)]) [(0, (.cst (LV.int .i64 2)))]⟩,
  ⟨(some 36), none, .box (.tmp 35)⟩,
  ⟨(some 37), none, .mkIface ty_ptr_num_Fault (.tmp 36)⟩,
  ⟨(some 4), none, .mov (.cst (LV.str []))⟩,
  ⟨(some 5), none, .mov (.tmp 37)⟩] []) .ret) (.seq (.reg [
  ⟨(some 39), none, .mov (.tmp 0)⟩,
  ⟨(some 40), none, .nilCheck (.tmp 39)⟩,
  ⟨(some 41), none, .fieldAddr 2 2 (.tmp 40)⟩,
  ⟨(some 42), none, .load 1 false (.tmp 41)⟩,
  ⟨(some 43), none, .eqNil 0 true (.tmp 42)⟩,
  ⟨(some 38), none, .mov (.tmp 43)⟩] []) (.cond (.tmp 38) .skip (.seq (.reg [
  ⟨(some 45), none, .mov (.tmp 1)⟩,
  ⟨(some 46), none, .bin .lss (.tmp 45) (.cst (LV.int .i64 0))⟩,
  ⟨(some 44), none, .mov (.tmp 46)⟩] []) (.cond (.tmp 44) (.reg [
  ⟨(some 47), none, .mov (.tmp 0)⟩,
  ⟨(some 48), none, .mov (.tmp 0)⟩,
  ⟨(some 49), none, .nilCheck (.tmp 48)⟩,
  ⟨(some 50), none, .fieldAddr 1 1 (.tmp 49)⟩,
  ⟨(some 51), none, .load 1 false (.tmp 50)⟩,
  ⟨(some 52), none, .build (LV.agg [(LV.int .i64 0), (LV.int .i64 0)]) [(0, (.cst (LV.int .i64 1))), (1, (.tmp 51))]⟩,
  ⟨(some 53), none, .box (.tmp 52)⟩,
  ⟨(some 54), none, .nilCheck (.tmp 47)⟩,
  ⟨(some 55), none, .fieldAddr 2 2 (.tmp 54)⟩,
  ⟨none, none, .store 1 false (.tmp 55) (.tmp 53)⟩] []) (.seq (.reg [
  ⟨(some 57), none, .mov (.tmp 1)⟩,
  ⟨(some 58), none, .mov (.tmp 0)⟩,
  ⟨(some 59), none, .nilCheck (.tmp 58)⟩,
  ⟨(some 60), none, .fieldAddr 0 0 (.tmp 59)⟩,
  ⟨(some 61), none, .load 1 false (.tmp 60)⟩,
  ⟨(some 62), none, .len true (.tmp 61)⟩,
  ⟨(some 63), none, .mov (.tmp 0)⟩,
  ⟨(some 64), none, .nilCheck (.tmp 63)⟩,
  ⟨(some 65), none, .fieldAddr 1 1 (.tmp 64)⟩,
  ⟨(some 66), none, .load 1 false (.tmp 65)⟩,
  ⟨(some 67), none, .bin .sub (.tmp 62) (.tmp 66)⟩,
  ⟨(some 68), none, .bin .gtr (.tmp 57) (.tmp 67)⟩,
  ⟨(some 56), none, .mov (.tmp 68)⟩] []) (.cond (.tmp 56) (.reg [
  ⟨(some 69), none, .mov (.tmp 0)⟩,
  ⟨(some 70), none, .mov (.tmp 0)⟩,
  ⟨(some 71), none, .nilCheck (.tmp 70)⟩,
  ⟨(some 72), none, .fieldAddr 1 1 (.tmp 71)⟩,
  ⟨(some 73), none, .load 1 false (.tmp 72)⟩,
  ⟨(some 74), none, .build (LV.agg [(LV.int .i64 0), (LV.int .i64 0)]) [(0, (.cst (LV.int .i64 7))), (1, (.tmp 73))]⟩,
  ⟨(some 75), none, .box (.tmp 74)⟩,
  ⟨(some 76), none, .nilCheck (.tmp 69)⟩,
  ⟨(some 77), none, .fieldAddr 2 2 (.tmp 76)⟩,
  ⟨none, none, .store 1 false (.tmp 77) (.tmp 75)⟩] []) (.seq (.reg [
  ⟨(some 8), none, .mov (.tmp 0)⟩,
  ⟨(some 9), none, .nilCheck (.tmp 8)⟩,
  ⟨(some 10), none, .fieldAddr 0 0 (.tmp 9)⟩,
  ⟨(some 11), none, .load 1 false (.tmp 10)⟩,
  ⟨(some 12), none, .mov (.tmp 0)⟩,
  ⟨(some 13), none, .nilCheck (.tmp 12)⟩,
  ⟨(some 14), none, .fieldAddr 1 1 (.tmp 13)⟩,
  ⟨(some 15), none, .load 1 false (.tmp 14)⟩,
  ⟨(some 16), none, .mov (.tmp 0)⟩,
  ⟨(some 17), none, .nilCheck (.tmp 16)⟩,
  ⟨(some 18), none, .fieldAddr 1 1 (.tmp 17)⟩,
  ⟨(some 19), none, .load 1 false (.tmp 18)⟩,
  ⟨(some 20), none, .mov (.tmp 1)⟩,
  ⟨(some 21), none, .bin .add (.tmp 19) (.tmp 20)⟩,
  ⟨(some 22), none, .slc 0 (.tmp 11) (some (.tmp 15)) (some (.tmp 21))⟩,
  ⟨(some 6), none, .mov (.tmp 22)⟩] []) (.seq (.reg [
  ⟨(some 23), none, .mov (.tmp 0)⟩,
  ⟨(some 24), none, .nilCheck (.tmp 23)⟩,
  ⟨(some 25), none, .fieldAddr 1 1 (.tmp 24)⟩,
  ⟨(some 26), none, .load 1 false (.tmp 25)⟩,
  ⟨(some 27), none, .mov (.tmp 1)⟩,
  ⟨(some 28), none, .bin .add (.tmp 26) (.tmp 27)⟩,
  ⟨(some 29), none, .nilCheck (.tmp 23)⟩,
  ⟨(some 30), none, .fieldAddr 1 1 (.tmp 29)⟩,
  ⟨none, none, .store 1 false (.tmp 30) (.tmp 28)⟩] []) (.seq (.reg [
  ⟨(some 31), none, .mov (.tmp 6)⟩,
  ⟨(some 4), none, .mov (.tmp 31)⟩,
  ⟨(some 5), none, .mov (.cst LV.nili)⟩] []) .ret)))))))))))) (.seq (.reg [
  ⟨(some 78), none, .mov (.tmp 0)⟩,
  ⟨(some 79), none, .nilCheck (.tmp 78)⟩,
  ⟨(some 80), none, .fieldAddr 2 2 (.tmp 79)⟩,
  ⟨(some 81), none, .load 1 false (.tmp 80)⟩,
  ⟨(some 82), none, .nilCheck (.tmp 81)⟩,
  ⟨(some 83), none, .load 2 true (.tmp 82)⟩,
  ⟨(some 7), none, .alloc (LV.agg [(LV.int .i64 0), (LV.int .i64 0)])⟩,
  ⟨none, none, .store 2 true (.tmp 7) (.tmp 83)⟩] []) (.seq (.reg [
  ⟨(some 84), none, .mkIface ty_ptr_num_Fault (.tmp 7)⟩,
  ⟨(some 4), none, .mov (.cst (LV.str []))⟩,
  ⟨(some 5), none, .mov (.tmp 84)⟩] []) .ret)))), [.tmp 4, .tmp 5]⟩

end Go.Ev
