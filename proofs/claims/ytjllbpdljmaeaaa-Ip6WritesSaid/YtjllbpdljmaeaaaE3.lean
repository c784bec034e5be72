/- Part 3 of a proof: what the functions yield. It stands by itself; no condition. -/
import Derived.Test.YtjllbpdljmaeaaaE0
/- The small code of the functions. -/
namespace Go.Ev
set_option linter.unusedVariables false
set_option maxRecDepth 100000
def id_main_main : Nat := 0
def id_gosem_cut : Nat := 1
def id_gosem_cut_init : Nat := 2
def id_interpreterlaw04_Ip6Reads : Nat := 3
def id_interpreterlaw04_Ip6Chains : Nat := 4
def id_interpreterlaw04_Ip6Back : Nat := 5
def id_interpreterlaw04_Ip6Again : Nat := 6
def id_interpreterlaw04_Ip6Links : Nat := 7
def id_interpreterlaw04_Ip6Fields : Nat := 8
def id_interpreterlaw04_Ip6Known : Nat := 9
def id_interpreterlaw04_Ip6Writes : Nat := 10
def id_interpreterlaw04_awake : Nat := 11
def id_ip6_Parse : Nat := 12
def id_interpreterref04_Parse : Nat := 13
def id_interpreterref04_Same : Nat := 14
def id_interpreterlaw04_same : Nat := 15
def id_ip6_Chain : Nat := 16
def id_interpreterref04_Chain : Nat := 17
def id_interpreterlaw04_Great : Nat := 18
def id_ip6_Bytes : Nat := 19
def id_interpreterlaw04_zeros : Nat := 20
def id_strings_Repeat : Nat := 21
def id_ip6_Routed : Nat := 22
def id_interpreterref04_Bytes : Nat := 23
def id_interpreterref04_Routed : Nat := 24
def id_ip6_fault : Nat := 25
def id_num_New : Nat := 26
def id_num_Reader_U32 : Nat := 27
def id_ip6_pieced : Nat := 28
def id_interpreterref04_number : Nat := 29
def id_ip6_extends : Nat := 30
def id_ip6_why : Nat := 31
def id_ip6_big : Nat := 32
def id_math_bits_Mul : Nat := 33
def id_strings_HasPrefix : Nat := 34
def id_strings_Builder_Grow : Nat := 35
def id_strings_Builder_WriteString : Nat := 36
def id_strings_Builder_Len : Nat := 37
def id_strings_Builder_String : Nat := 38
def id_interpreterref04_Why : Nat := 39
def id_interpreterref04_put : Nat := 40
def id_num_Reader_number : Nat := 41
def id_interpreterref01_Reader_Number : Nat := 42
def id_ip6_within : Nat := 43
def id_ip6_kinds : Nat := 44
def id_ip6_formed : Nat := 45
def id_ip6_size : Nat := 46
def id_num_Big : Nat := 47
def id_math_bits_Mul32 : Nat := 48
def id_math_bits_Mul64 : Nat := 49
def id_internal_stringslite_HasPrefix : Nat := 50
def id_strings_Builder_copyCheck : Nat := 51
def id_strings_Builder_grow : Nat := 52
def id_interpreterref04_bound : Nat := 53
def id_interpreterref01_Put : Nat := 54
def id_num_Reader_Text : Nat := 55
def id_interpreterref01_Reader_Text : Nat := 56
def id_internal_abi_NoEscape : Nat := 57
def id_internal_bytealg_MakeNoZero : Nat := 58
def id_runtime_boundsError_Error : Nat := 59
def id_runtime_boundsError_RuntimeError : Nat := 60
def id_runtime_errorString_Error : Nat := 61
def id_runtime_errorString_RuntimeError : Nat := 62
def id_runtime_plainError_Error : Nat := 63
def id_runtime_plainError_RuntimeError : Nat := 64
def id_runtime_errorAddressString_Error : Nat := 65
def id_runtime_errorAddressString_RuntimeError : Nat := 66
def id_runtime_TypeAssertionError_Error : Nat := 67
def id_runtime_TypeAssertionError_RuntimeError : Nat := 68
def id_runtime_PanicNilError_Error : Nat := 69
def id_runtime_PanicNilError_RuntimeError : Nat := 70
def id_internal_abi_Type_Align : Nat := 71
def id_internal_runtime_maps_unhashableTypeError_Error : Nat := 72
def id_internal_runtime_maps_unhashableTypeError_RuntimeError : Nat := 73
def id_num_Reader_At : Nat := 74
def id_num_Fault_Error : Nat := 75
def id_strings_Builder_Reset : Nat := 76
def id_interpreterref01_Reader_Rest : Nat := 77
def id_internal_abi_Kind_String : Nat := 78

def ty_ : Nat := 0
def ty_func : Nat := 1
def ty_int64 : Nat := 2
def ty_int : Nat := 3
def ty_bool : Nat := 4
def ty_uint8 : Nat := 5
def ty_abi_BoundsErrorCode : Nat := 6
def ty_struct_x_int64_y_int_signed_bool_code_abi_BoundsErrorCode : Nat := 7
def ty_runtime_boundsError : Nat := 8
def ty_string : Nat := 9
def ty_runtime_errorString : Nat := 10
def ty_runtime_plainError : Nat := 11
def ty_uintptr : Nat := 12
def ty_struct_msg_string_addr_uintptr : Nat := 13
def ty_runtime_errorAddressString : Nat := 14
def ty_ptr_runtime_TypeAssertionError : Nat := 15
def ty_ptr_runtime_PanicNilError : Nat := 16
def ty_ptr_abi_Type : Nat := 17
def ty_struct_typ_ptr_abi_Type : Nat := 18
def ty_maps_unhashableTypeError : Nat := 19
def ty_interface : Nat := 20
def ty_int32 : Nat := 21
def ty_func_bool : Nat := 22
def ty_16_uint8 : Nat := 23
def ty_api_V6 : Nat := 24
def ty_slice_api_Ext : Nat := 25
def ty_uint32 : Nat := 26
def ty_struct_Class_int_Flow_int_Hop_int_From_api_V6_To_api_V6_Exts_slice_api_Ext_Frag_bool_Id_uint32_At_int_More_bool_Proto_int_Data_string : Nat := 27
def ty_api_Ip6 : Nat := 28
def ty_interface_Error_string : Nat := 29
def ty_error : Nat := 30
def ty_api_Ip6_error : Nat := 31
def ty_func_string_api_Ip6_error : Nat := 32
def ty_api_Ip6_int : Nat := 33
def ty_func_string_api_Ip6_int : Nat := 34
def ty_func_api_Ip6_api_Ip6_bool : Nat := 35
def ty_func_error_int_bool : Nat := 36
def ty_func_string_bool : Nat := 37
def ty_slice_api_Ext_int_string_error : Nat := 38
def ty_func_int_string_slice_api_Ext_int_string_error : Nat := 39
def ty_slice_api_Ext_int_string_int : Nat := 40
def ty_func_int_string_slice_api_Ext_int_string_int : Nat := 41
def ty_func_int_string_bool : Nat := 42
def ty_func_api_Ip6_bool : Nat := 43
def ty_string_error : Nat := 44
def ty_func_api_Ip6_string_error : Nat := 45
def ty_func_api_Ip6_string_bool : Nat := 46
def ty_func_int_string : Nat := 47
def ty_slice_uint8 : Nat := 48
def ty_struct_Kind_int_Body_string : Nat := 49
def ty_api_Ext : Nat := 50
def ty_func_uint8_string_uint8_bool_bool : Nat := 51
def ty_func_api_Ip6_uint8_uint32_bool : Nat := 52
def ty_func_string_int_string : Nat := 53
def ty_func_slice_api_Ext_bool : Nat := 54
def ty_string_int : Nat := 55
def ty_func_api_Ip6_string_int : Nat := 56
def ty_func_api_Errno_error : Nat := 57
def ty_api_Errno : Nat := 58
def ty_uint : Nat := 59
def ty_int_error : Nat := 60
def ty_ptr_num_Reader : Nat := 61
def ty_func_string_ptr_num_Reader : Nat := 62
def ty_func_int_error : Nat := 63
def ty_func_string_int_int_int : Nat := 64
def ty_ptr_num_Fault : Nat := 65
def ty_ptr_num_Fault_bool : Nat := 66
def ty_struct_Code_api_Errno_At_int : Nat := 67
def ty_num_Fault : Nat := 68
def ty_func_int_bool : Nat := 69
def ty_func_api_Ip6_api_Errno : Nat := 70
def ty_func_int_int_string : Nat := 71
def ty_uint_uint : Nat := 72
def ty_func_uint_uint_uint_uint : Nat := 73
def ty_func_string_string_bool : Nat := 74
def ty_ptr_strings_Builder : Nat := 75
def ty_struct_addr_ptr_strings_Builder_buf_slice_uint8 : Nat := 76
def ty_strings_Builder : Nat := 77
def ty_func_int : Nat := 78
def ty_func_string_int_error : Nat := 79
def ty_func_string : Nat := 81
def ty_func_api_Ip6_int : Nat := 82
def ty_slice_int : Nat := 83
def ty_struct_s_string_at_int_bad_ptr_num_Fault : Nat := 84
def ty_num_Reader : Nat := 85
def ty_func_int_int_error : Nat := 86
def ty_ptr_interpreterref01_Reader : Nat := 87
def ty_struct_S_string_At_int_Bad_int_BadPlace_int : Nat := 88
def ty_interpreterref01_Reader : Nat := 89
def ty_int_int : Nat := 90
def ty_func_int_int_int : Nat := 91
def ty_func_int_int_bool : Nat := 92
def ty_func_int_int_string_error : Nat := 93
def ty_uint32_uint32 : Nat := 94
def ty_func_uint32_uint32_uint32_uint32 : Nat := 95
def ty_uint64 : Nat := 96
def ty_uint64_uint64 : Nat := 97
def ty_func_uint64_uint64_uint64_uint64 : Nat := 98
def ty_ptr_uint8 : Nat := 99
def ty_func_int_string_error : Nat := 100
def ty_func_int_string_int : Nat := 101
def ty_unsafe_Pointer : Nat := 102
def ty_func_unsafe_Pointer_unsafe_Pointer : Nat := 103
def ty_func_int_slice_uint8 : Nat := 104
def ty_struct_interface_ptr_abi_Type_concrete_ptr_abi_Type_asserted_ptr_abi_Type_missingMethod_string : Nat := 105
def ty_runtime_TypeAssertionError : Nat := 106
def ty_0_ptr_runtime_PanicNilError : Nat := 107
def ty_struct_0_ptr_runtime_PanicNilError : Nat := 108
def ty_runtime_PanicNilError : Nat := 109
def ty_abi_TFlag : Nat := 110
def ty_abi_Kind : Nat := 111
def ty_func_unsafe_Pointer_unsafe_Pointer_bool : Nat := 112
def ty_abi_NameOff : Nat := 113
def ty_abi_TypeOff : Nat := 114
def ty_struct_Size_uintptr_PtrBytes_uintptr_Hash_uint32_TFlag_abi_TFlag_Align_uint8_FieldAlign_uint8_Kind_abi_Kind_Equal_func_unsafe_Pointer_unsafe_Pointer_bool_GCData_ptr_uint8_Str_abi_NameOff_PtrToThis_abi_TypeOff : Nat := 115
def ty_abi_Type : Nat := 116

/-- interpreter/interpreterlaw04.Ip6Reads -/
def c_interpreterlaw04_Ip6Reads : MFn := ⟨1, 30, (.seq (.reg [
  ⟨(some 2), none, .mov (.cst (LV.bool false))⟩] []) (.seq (.seq (.reg [
  ⟨(some 7), none, .call id_interpreterlaw04_awake []⟩,
  ⟨(some 8), none, .un .not (.tmp 7)⟩] []) (.cond (.tmp 8) (.seq (.reg [
  ⟨(some 2), none, .mov (.cst (LV.bool false))⟩] []) .ret) .skip)) (.seq (.seq (.reg [
  ⟨(some 9), none, .mov (.tmp 0)⟩,
  ⟨(some 10), none, .len true (.tmp 9)⟩,
  ⟨(some 11), none, .bin .gtr (.tmp 10) (.cst (LV.int .i64 70000))⟩] []) (.cond (.tmp 11) (.seq (.reg [
  ⟨(some 2), none, .mov (.cst (LV.bool true))⟩] []) .ret) .skip)) (.seq (.reg [
  ⟨(some 13), none, .mov (.tmp 0)⟩,
  ⟨(some 14), none, .call id_ip6_Parse [(.tmp 13)]⟩,
  ⟨(some 12), none, .mov (.tmp 14)⟩,
  ⟨(some 15), none, .extract (.tmp 12) 0⟩,
  ⟨(some 16), none, .extract (.tmp 12) 1⟩,
  ⟨(some 3), none, .alloc (LV.agg [(LV.int .i64 0), (LV.int .i64 0), (LV.int .i64 0), (LV.bytes [0, 0, 0, 0, 0, 0, 0, 0, 0, 0, 0, 0, 0, 0, 0, 0]), (LV.bytes [0, 0, 0, 0, 0, 0, 0, 0, 0, 0, 0, 0, 0, 0, 0, 0]), LV.nils, (LV.bool false), (LV.int .u32 0), (LV.int .i64 0), (LV.bool false), (LV.int .i64 0), (LV.str [])])⟩,
  ⟨none, none, .store 42 true (.tmp 3) (.tmp 15)⟩,
  ⟨(some 4), none, .mov (.tmp 16)⟩] []) (.seq (.reg [
  ⟨(some 18), none, .mov (.tmp 0)⟩,
  ⟨(some 19), none, .call id_interpreterref04_Parse [(.tmp 18)]⟩,
  ⟨(some 17), none, .mov (.tmp 19)⟩,
  ⟨(some 20), none, .extract (.tmp 17) 0⟩,
  ⟨(some 21), none, .extract (.tmp 17) 1⟩,
  ⟨(some 5), none, .alloc (LV.agg [(LV.int .i64 0), (LV.int .i64 0), (LV.int .i64 0), (LV.bytes [0, 0, 0, 0, 0, 0, 0, 0, 0, 0, 0, 0, 0, 0, 0, 0]), (LV.bytes [0, 0, 0, 0, 0, 0, 0, 0, 0, 0, 0, 0, 0, 0, 0, 0]), LV.nils, (LV.bool false), (LV.int .u32 0), (LV.int .i64 0), (LV.bool false), (LV.int .i64 0), (LV.str [])])⟩,
  ⟨none, none, .store 42 true (.tmp 5) (.tmp 20)⟩,
  ⟨(some 6), none, .mov (.tmp 21)⟩] []) (.seq (.reg [
  ⟨(some 22), none, .load 42 true (.tmp 3)⟩,
  ⟨(some 23), none, .load 42 true (.tmp 5)⟩,
  ⟨(some 24), none, .call id_interpreterref04_Same [(.tmp 22), (.tmp 23)]⟩,
  ⟨(some 25), none, .mov (.tmp 24)⟩,
  ⟨(some 26), (some (25, true)), .mov (.tmp 4)⟩,
  ⟨(some 27), (some (25, true)), .mov (.tmp 6)⟩,
  ⟨(some 28), (some (25, true)), .call id_interpreterlaw04_same [(.tmp 26), (.tmp 27)]⟩,
  ⟨(some 29), none, .pick (.tmp 25) (.tmp 28) (.cst (LV.bool false))⟩,
  ⟨(some 2), none, .mov (.tmp 29)⟩] []) .ret)))))), [.tmp 2]⟩
/-- interpreter/interpreterlaw04.Ip6Chains -/
def c_interpreterlaw04_Ip6Chains : MFn := ⟨2, 54, (.seq (.reg [
  ⟨(some 4), none, .mov (.cst (LV.bool false))⟩] []) (.seq (.seq (.reg [
  ⟨(some 13), none, .call id_interpreterlaw04_awake []⟩,
  ⟨(some 14), none, .un .not (.tmp 13)⟩] []) (.cond (.tmp 14) (.seq (.reg [
  ⟨(some 4), none, .mov (.cst (LV.bool false))⟩] []) .ret) .skip)) (.seq (.seq (.reg [
  ⟨(some 15), none, .mov (.tmp 1)⟩,
  ⟨(some 16), none, .len true (.tmp 15)⟩,
  ⟨(some 17), none, .bin .gtr (.tmp 16) (.cst (LV.int .i64 70000))⟩] []) (.cond (.tmp 17) (.seq (.reg [
  ⟨(some 4), none, .mov (.cst (LV.bool true))⟩] []) .ret) .skip)) (.seq (.reg [
  ⟨(some 19), none, .mov (.tmp 0)⟩,
  ⟨(some 20), none, .mov (.tmp 1)⟩,
  ⟨(some 21), none, .call id_ip6_Chain [(.tmp 19), (.tmp 20)]⟩,
  ⟨(some 18), none, .mov (.tmp 21)⟩,
  ⟨(some 22), none, .extract (.tmp 18) 0⟩,
  ⟨(some 23), none, .extract (.tmp 18) 1⟩,
  ⟨(some 24), none, .extract (.tmp 18) 2⟩,
  ⟨(some 25), none, .extract (.tmp 18) 3⟩,
  ⟨(some 5), none, .mov (.tmp 22)⟩,
  ⟨(some 6), none, .mov (.tmp 23)⟩,
  ⟨(some 7), none, .mov (.tmp 24)⟩,
  ⟨(some 8), none, .mov (.tmp 25)⟩] []) (.seq (.reg [
  ⟨(some 27), none, .mov (.tmp 0)⟩,
  ⟨(some 28), none, .mov (.tmp 1)⟩,
  ⟨(some 29), none, .call id_interpreterref04_Chain [(.tmp 27), (.tmp 28)]⟩,
  ⟨(some 26), none, .mov (.tmp 29)⟩,
  ⟨(some 30), none, .extract (.tmp 26) 0⟩,
  ⟨(some 31), none, .extract (.tmp 26) 1⟩,
  ⟨(some 32), none, .extract (.tmp 26) 2⟩,
  ⟨(some 33), none, .extract (.tmp 26) 3⟩,
  ⟨(some 9), none, .mov (.tmp 30)⟩,
  ⟨(some 10), none, .mov (.tmp 31)⟩,
  ⟨(some 11), none, .mov (.tmp 32)⟩,
  ⟨(some 12), none, .mov (.tmp 33)⟩] []) (.seq (.reg [
  ⟨(some 34), none, .mov (.tmp 5)⟩,
  ⟨(some 35), none, .build (LV.agg [(LV.int .i64 0), (LV.int .i64 0), (LV.int .i64 0), (LV.bytes [0, 0, 0, 0, 0, 0, 0, 0, 0, 0, 0, 0, 0, 0, 0, 0]), (LV.bytes [0, 0, 0, 0, 0, 0, 0, 0, 0, 0, 0, 0, 0, 0, 0, 0]), LV.nils, (LV.bool false), (LV.int .u32 0), (LV.int .i64 0), (LV.bool false), (LV.int .i64 0), (LV.str [])]) [(5, (.tmp 34))]⟩,
  ⟨(some 36), none, .mov (.tmp 9)⟩,
  ⟨(some 37), none, .build (LV.agg [(LV.int .i64 0), (LV.int .i64 0), (LV.int .i64 0), (LV.bytes [0, 0, 0, 0, 0, 0, 0, 0, 0, 0, 0, 0, 0, 0, 0, 0]), (LV.bytes [0, 0, 0, 0, 0, 0, 0, 0, 0, 0, 0, 0, 0, 0, 0, 0]), LV.nils, (LV.bool false), (LV.int .u32 0), (LV.int .i64 0), (LV.bool false), (LV.int .i64 0), (LV.str [])]) [(5, (.tmp 36))]⟩,
  ⟨(some 38), none, .call id_interpreterref04_Same [(.tmp 35), (.tmp 37)]⟩,
  ⟨(some 39), none, .mov (.tmp 38)⟩,
  ⟨(some 40), (some (39, true)), .mov (.tmp 6)⟩,
  ⟨(some 41), (some (39, true)), .mov (.tmp 10)⟩,
  ⟨(some 42), (some (39, true)), .bin .eql (.tmp 40) (.tmp 41)⟩,
  ⟨(some 43), none, .pick (.tmp 39) (.tmp 42) (.cst (LV.bool false))⟩,
  ⟨(some 44), none, .mov (.tmp 43)⟩,
  ⟨(some 45), (some (44, true)), .mov (.tmp 7)⟩,
  ⟨(some 46), (some (44, true)), .mov (.tmp 11)⟩,
  ⟨(some 47), (some (44, true)), .bin .eql (.tmp 45) (.tmp 46)⟩,
  ⟨(some 48), none, .pick (.tmp 44) (.tmp 47) (.cst (LV.bool false))⟩,
  ⟨(some 49), none, .mov (.tmp 48)⟩,
  ⟨(some 50), (some (49, true)), .mov (.tmp 8)⟩,
  ⟨(some 51), (some (49, true)), .mov (.tmp 12)⟩,
  ⟨(some 52), (some (49, true)), .call id_interpreterlaw04_same [(.tmp 50), (.tmp 51)]⟩,
  ⟨(some 53), none, .pick (.tmp 49) (.tmp 52) (.cst (LV.bool false))⟩,
  ⟨(some 4), none, .mov (.tmp 53)⟩] []) .ret)))))), [.tmp 4]⟩
/-- interpreter/interpreterlaw04.Ip6Back -/
def c_interpreterlaw04_Ip6Back : MFn := ⟨2, 78, (.seq (.reg [
  ⟨(some 2), none, .box (.tmp 0)⟩,
  ⟨(some 4), none, .mov (.cst (LV.bool false))⟩] []) (.seq (.seq (.reg [
  ⟨(some 11), none, .call id_interpreterlaw04_awake []⟩,
  ⟨(some 12), none, .un .not (.tmp 11)⟩] []) (.cond (.tmp 12) (.seq (.reg [
  ⟨(some 4), none, .mov (.cst (LV.bool false))⟩] []) .ret) .skip)) (.seq (.seq (.reg [
  ⟨(some 13), none, .load 42 true (.tmp 2)⟩,
  ⟨(some 14), none, .call id_interpreterlaw04_Great [(.tmp 13)]⟩,
  ⟨(some 15), none, .mov (.tmp 14)⟩,
  ⟨(some 16), (some (15, false)), .mov (.tmp 1)⟩,
  ⟨(some 17), (some (15, false)), .len true (.tmp 16)⟩,
  ⟨(some 18), (some (15, false)), .bin .gtr (.tmp 17) (.cst (LV.int .i64 1000))⟩,
  ⟨(some 19), none, .pick (.tmp 15) (.cst (LV.bool true)) (.tmp 18)⟩] []) (.cond (.tmp 19) (.seq (.reg [
  ⟨(some 4), none, .mov (.cst (LV.bool true))⟩] []) .ret) .skip)) (.seq (.reg [
  ⟨(some 21), none, .load 42 true (.tmp 2)⟩,
  ⟨(some 22), none, .call id_ip6_Bytes [(.tmp 21)]⟩,
  ⟨(some 20), none, .mov (.tmp 22)⟩,
  ⟨(some 23), none, .extract (.tmp 20) 0⟩,
  ⟨(some 24), none, .extract (.tmp 20) 1⟩,
  ⟨(some 5), none, .mov (.tmp 23)⟩,
  ⟨(some 6), none, .mov (.tmp 24)⟩] []) (.seq (.seq (.reg [
  ⟨(some 25), none, .mov (.tmp 6)⟩,
  ⟨(some 26), none, .eqNil 1 true (.tmp 25)⟩] []) (.cond (.tmp 26) (.seq (.reg [
  ⟨(some 27), none, .mov (.tmp 5)⟩,
  ⟨(some 28), none, .bin .eql (.tmp 27) (.cst (LV.str []))⟩,
  ⟨(some 4), none, .mov (.tmp 28)⟩] []) .ret) .skip)) (.seq (.reg [
  ⟨(some 30), none, .mov (.tmp 5)⟩,
  ⟨(some 31), none, .mov (.tmp 1)⟩,
  ⟨(some 32), none, .bin .add (.tmp 30) (.tmp 31)⟩,
  ⟨(some 33), none, .call id_ip6_Parse [(.tmp 32)]⟩,
  ⟨(some 29), none, .mov (.tmp 33)⟩,
  ⟨(some 34), none, .extract (.tmp 29) 0⟩,
  ⟨(some 35), none, .extract (.tmp 29) 1⟩,
  ⟨(some 7), none, .alloc (LV.agg [(LV.int .i64 0), (LV.int .i64 0), (LV.int .i64 0), (LV.bytes [0, 0, 0, 0, 0, 0, 0, 0, 0, 0, 0, 0, 0, 0, 0, 0]), (LV.bytes [0, 0, 0, 0, 0, 0, 0, 0, 0, 0, 0, 0, 0, 0, 0, 0]), LV.nils, (LV.bool false), (LV.int .u32 0), (LV.int .i64 0), (LV.bool false), (LV.int .i64 0), (LV.str [])])⟩,
  ⟨none, none, .store 42 true (.tmp 7) (.tmp 34)⟩,
  ⟨(some 8), none, .mov (.tmp 35)⟩] []) (.seq (.reg [
  ⟨(some 37), none, .mov (.tmp 5)⟩,
  ⟨(some 38), none, .mov (.tmp 5)⟩,
  ⟨(some 39), none, .len true (.tmp 38)⟩,
  ⟨(some 40), none, .bin .sub (.tmp 39) (.cst (LV.int .i64 1))⟩,
  ⟨(some 41), none, .slc 0 (.tmp 37) none (some (.tmp 40))⟩,
  ⟨(some 42), none, .call id_ip6_Parse [(.tmp 41)]⟩,
  ⟨(some 36), none, .mov (.tmp 42)⟩,
  ⟨(some 43), none, .extract (.tmp 36) 0⟩,
  ⟨(some 44), none, .extract (.tmp 36) 1⟩,
  ⟨(some 9), none, .alloc (LV.agg [(LV.int .i64 0), (LV.int .i64 0), (LV.int .i64 0), (LV.bytes [0, 0, 0, 0, 0, 0, 0, 0, 0, 0, 0, 0, 0, 0, 0, 0]), (LV.bytes [0, 0, 0, 0, 0, 0, 0, 0, 0, 0, 0, 0, 0, 0, 0, 0]), LV.nils, (LV.bool false), (LV.int .u32 0), (LV.int .i64 0), (LV.bool false), (LV.int .i64 0), (LV.str [])])⟩,
  ⟨none, none, .store 42 true (.tmp 9) (.tmp 43)⟩,
  ⟨(some 10), none, .mov (.tmp 44)⟩] []) (.seq (.reg [
  ⟨(some 45), none, .mov (.tmp 8)⟩,
  ⟨(some 46), none, .eqNil 1 false (.tmp 45)⟩,
  ⟨(some 47), none, .mov (.tmp 46)⟩,
  ⟨(some 48), (some (47, true)), .load 42 true (.tmp 2)⟩,
  ⟨(some 49), (some (47, true)), .load 42 true (.tmp 7)⟩,
  ⟨(some 50), (some (47, true)), .call id_interpreterref04_Same [(.tmp 48), (.tmp 49)]⟩,
  ⟨(some 51), none, .pick (.tmp 47) (.tmp 50) (.cst (LV.bool false))⟩,
  ⟨(some 52), none, .mov (.tmp 51)⟩,
  ⟨(some 53), (some (52, true)), .mov (.tmp 10)⟩,
  ⟨(some 54), (some (52, true)), .eqNil 1 true (.tmp 53)⟩,
  ⟨(some 55), none, .pick (.tmp 52) (.tmp 54) (.cst (LV.bool false))⟩,
  ⟨(some 56), none, .mov (.tmp 55)⟩,
  ⟨(some 57), (some (56, true)), .mov (.tmp 5)⟩,
  ⟨(some 58), (some (56, true)), .len true (.tmp 57)⟩,
  ⟨(some 59), (some (56, true)), .fieldAddr 11 41 (.tmp 2)⟩,
  ⟨(some 60), (some (56, true)), .load 1 false (.tmp 59)⟩,
  ⟨(some 61), (some (56, true)), .len true (.tmp 60)⟩,
  ⟨(some 62), (some (56, true)), .bin .add (.cst (LV.int .i64 40)) (.tmp 61)⟩,
  ⟨(some 63), (some (56, true)), .bin .geq (.tmp 58) (.tmp 62)⟩,
  ⟨(some 64), none, .pick (.tmp 56) (.tmp 63) (.cst (LV.bool false))⟩,
  ⟨(some 65), none, .mov (.tmp 64)⟩,
  ⟨(some 66), (some (65, true)), .mov (.tmp 5)⟩,
  ⟨(some 67), (some (65, true)), .mov (.tmp 5)⟩,
  ⟨(some 68), (some (65, true)), .len true (.tmp 67)⟩,
  ⟨(some 69), (some (65, true)), .fieldAddr 11 41 (.tmp 2)⟩,
  ⟨(some 70), (some (65, true)), .load 1 false (.tmp 69)⟩,
  ⟨(some 71), (some (65, true)), .len true (.tmp 70)⟩,
  ⟨(some 72), (some (65, true)), .bin .sub (.tmp 68) (.tmp 71)⟩,
  ⟨(some 73), (some (65, true)), .slc 0 (.tmp 66) (some (.tmp 72)) none⟩,
  ⟨(some 74), (some (65, true)), .fieldAddr 11 41 (.tmp 2)⟩,
  ⟨(some 75), (some (65, true)), .load 1 false (.tmp 74)⟩,
  ⟨(some 76), (some (65, true)), .bin .eql (.tmp 73) (.tmp 75)⟩,
  ⟨(some 77), none, .pick (.tmp 65) (.tmp 76) (.cst (LV.bool false))⟩,
  ⟨(some 4), none, .mov (.tmp 77)⟩] []) .ret)))))))), [.tmp 4]⟩
/-- interpreter/interpreterlaw04.Ip6Again -/
def c_interpreterlaw04_Ip6Again : MFn := ⟨1, 72, (.seq (.reg [
  ⟨(some 2), none, .mov (.cst (LV.bool false))⟩] []) (.seq (.seq (.reg [
  ⟨(some 9), none, .call id_interpreterlaw04_awake []⟩,
  ⟨(some 10), none, .un .not (.tmp 9)⟩] []) (.cond (.tmp 10) (.seq (.reg [
  ⟨(some 2), none, .mov (.cst (LV.bool false))⟩] []) .ret) .skip)) (.seq (.seq (.reg [
  ⟨(some 11), none, .mov (.tmp 0)⟩,
  ⟨(some 12), none, .len true (.tmp 11)⟩,
  ⟨(some 13), none, .bin .gtr (.tmp 12) (.cst (LV.int .i64 70000))⟩] []) (.cond (.tmp 13) (.seq (.reg [
  ⟨(some 2), none, .mov (.cst (LV.bool true))⟩] []) .ret) .skip)) (.seq (.reg [
  ⟨(some 15), none, .mov (.tmp 0)⟩,
  ⟨(some 16), none, .call id_ip6_Parse [(.tmp 15)]⟩,
  ⟨(some 14), none, .mov (.tmp 16)⟩,
  ⟨(some 17), none, .extract (.tmp 14) 0⟩,
  ⟨(some 18), none, .extract (.tmp 14) 1⟩,
  ⟨(some 3), none, .alloc (LV.agg [(LV.int .i64 0), (LV.int .i64 0), (LV.int .i64 0), (LV.bytes [0, 0, 0, 0, 0, 0, 0, 0, 0, 0, 0, 0, 0, 0, 0, 0]), (LV.bytes [0, 0, 0, 0, 0, 0, 0, 0, 0, 0, 0, 0, 0, 0, 0, 0]), LV.nils, (LV.bool false), (LV.int .u32 0), (LV.int .i64 0), (LV.bool false), (LV.int .i64 0), (LV.str [])])⟩,
  ⟨none, none, .store 42 true (.tmp 3) (.tmp 17)⟩,
  ⟨(some 4), none, .mov (.tmp 18)⟩] []) (.seq (.seq (.reg [
  ⟨(some 19), none, .mov (.tmp 4)⟩,
  ⟨(some 20), none, .eqNil 1 true (.tmp 19)⟩] []) (.cond (.tmp 20) (.seq (.reg [
  ⟨(some 21), none, .load 42 true (.tmp 3)⟩,
  ⟨(some 22), none, .build (LV.agg [(LV.int .i64 0), (LV.int .i64 0), (LV.int .i64 0), (LV.bytes [0, 0, 0, 0, 0, 0, 0, 0, 0, 0, 0, 0, 0, 0, 0, 0]), (LV.bytes [0, 0, 0, 0, 0, 0, 0, 0, 0, 0, 0, 0, 0, 0, 0, 0]), LV.nils, (LV.bool false), (LV.int .u32 0), (LV.int .i64 0), (LV.bool false), (LV.int .i64 0), (LV.str [])]) []⟩,
  ⟨(some 23), none, .call id_interpreterref04_Same [(.tmp 21), (.tmp 22)]⟩,
  ⟨(some 2), none, .mov (.tmp 23)⟩] []) .ret) .skip)) (.seq (.reg [
  ⟨(some 25), none, .load 42 true (.tmp 3)⟩,
  ⟨(some 26), none, .call id_ip6_Bytes [(.tmp 25)]⟩,
  ⟨(some 24), none, .mov (.tmp 26)⟩,
  ⟨(some 27), none, .extract (.tmp 24) 0⟩,
  ⟨(some 28), none, .extract (.tmp 24) 1⟩,
  ⟨(some 5), none, .mov (.tmp 27)⟩,
  ⟨(some 6), none, .mov (.tmp 28)⟩] []) (.seq (.reg [
  ⟨(some 30), none, .mov (.tmp 5)⟩,
  ⟨(some 31), none, .call id_ip6_Parse [(.tmp 30)]⟩,
  ⟨(some 29), none, .mov (.tmp 31)⟩,
  ⟨(some 32), none, .extract (.tmp 29) 0⟩,
  ⟨(some 33), none, .extract (.tmp 29) 1⟩,
  ⟨(some 7), none, .alloc (LV.agg [(LV.int .i64 0), (LV.int .i64 0), (LV.int .i64 0), (LV.bytes [0, 0, 0, 0, 0, 0, 0, 0, 0, 0, 0, 0, 0, 0, 0, 0]), (LV.bytes [0, 0, 0, 0, 0, 0, 0, 0, 0, 0, 0, 0, 0, 0, 0, 0]), LV.nils, (LV.bool false), (LV.int .u32 0), (LV.int .i64 0), (LV.bool false), (LV.int .i64 0), (LV.str [])])⟩,
  ⟨none, none, .store 42 true (.tmp 7) (.tmp 32)⟩,
  ⟨(some 8), none, .mov (.tmp 33)⟩] []) (.seq (.reg [
  ⟨(some 34), none, .mov (.tmp 6)⟩,
  ⟨(some 35), none, .eqNil 1 false (.tmp 34)⟩,
  ⟨(some 36), none, .mov (.tmp 35)⟩,
  ⟨(some 37), (some (36, true)), .mov (.tmp 8)⟩,
  ⟨(some 38), (some (36, true)), .eqNil 1 false (.tmp 37)⟩,
  ⟨(some 39), none, .pick (.tmp 36) (.tmp 38) (.cst (LV.bool false))⟩,
  ⟨(some 40), none, .mov (.tmp 39)⟩,
  ⟨(some 41), (some (40, true)), .load 42 true (.tmp 3)⟩,
  ⟨(some 42), (some (40, true)), .load 42 true (.tmp 7)⟩,
  ⟨(some 43), (some (40, true)), .call id_interpreterref04_Same [(.tmp 41), (.tmp 42)]⟩,
  ⟨(some 44), none, .pick (.tmp 40) (.tmp 43) (.cst (LV.bool false))⟩,
  ⟨(some 45), none, .mov (.tmp 44)⟩,
  ⟨(some 46), (some (45, true)), .mov (.tmp 5)⟩,
  ⟨(some 47), (some (45, true)), .len true (.tmp 46)⟩,
  ⟨(some 48), (some (45, true)), .mov (.tmp 0)⟩,
  ⟨(some 49), (some (45, true)), .len true (.tmp 48)⟩,
  ⟨(some 50), (some (45, true)), .bin .leq (.tmp 47) (.tmp 49)⟩,
  ⟨(some 51), none, .pick (.tmp 45) (.tmp 50) (.cst (LV.bool false))⟩,
  ⟨(some 52), none, .mov (.tmp 51)⟩,
  ⟨(some 53), (some (52, true)), .mov (.tmp 5)⟩,
  ⟨(some 54), (some (52, true)), .slc 0 (.tmp 53) none (some (.cst (LV.int .i64 7)))⟩,
  ⟨(some 55), (some (52, true)), .mov (.tmp 0)⟩,
  ⟨(some 56), (some (52, true)), .slc 0 (.tmp 55) none (some (.cst (LV.int .i64 7)))⟩,
  ⟨(some 57), (some (52, true)), .bin .eql (.tmp 54) (.tmp 56)⟩,
  ⟨(some 58), none, .pick (.tmp 52) (.tmp 57) (.cst (LV.bool false))⟩,
  ⟨(some 59), none, .mov (.tmp 58)⟩,
  ⟨(some 60), (some (59, true)), .mov (.tmp 5)⟩,
  ⟨(some 61), (some (59, true)), .mov (.tmp 5)⟩,
  ⟨(some 62), (some (59, true)), .len true (.tmp 61)⟩,
  ⟨(some 63), (some (59, true)), .fieldAddr 11 41 (.tmp 3)⟩,
  ⟨(some 64), (some (59, true)), .load 1 false (.tmp 63)⟩,
  ⟨(some 65), (some (59, true)), .len true (.tmp 64)⟩,
  ⟨(some 66), (some (59, true)), .bin .sub (.tmp 62) (.tmp 65)⟩,
  ⟨(some 67), (some (59, true)), .slc 0 (.tmp 60) (some (.tmp 66)) none⟩,
  ⟨(some 68), (some (59, true)), .fieldAddr 11 41 (.tmp 3)⟩,
  ⟨(some 69), (some (59, true)), .load 1 false (.tmp 68)⟩,
  ⟨(some 70), (some (59, true)), .bin .eql (.tmp 67) (.tmp 69)⟩,
  ⟨(some 71), none, .pick (.tmp 59) (.tmp 70) (.cst (LV.bool false))⟩,
  ⟨(some 2), none, .mov (.tmp 71)⟩] []) .ret)))))))), [.tmp 2]⟩
/-- interpreter/interpreterlaw04.Ip6Links -/
def c_interpreterlaw04_Ip6Links : MFn := ⟨4, 132, (.seq (.reg [
  ⟨(some 8), none, .mov (.cst (LV.bool false))⟩] []) (.seq (.seq (.reg [
  ⟨(some 19), none, .call id_interpreterlaw04_awake []⟩,
  ⟨(some 20), none, .un .not (.tmp 19)⟩] []) (.cond (.tmp 20) (.seq (.reg [
  ⟨(some 8), none, .mov (.cst (LV.bool false))⟩] []) .ret) .skip)) (.seq (.seq (.reg [
  ⟨(some 21), none, .mov (.tmp 1)⟩,
  ⟨(some 22), none, .len true (.tmp 21)⟩,
  ⟨(some 23), none, .bin .gtr (.tmp 22) (.cst (LV.int .i64 3000))⟩] []) (.cond (.tmp 23) (.seq (.reg [
  ⟨(some 8), none, .mov (.cst (LV.bool true))⟩] []) .ret) .skip)) (.seq (.reg [
  ⟨(some 25), none, .mov (.tmp 0)⟩,
  ⟨(some 26), none, .conv .i64 (.tmp 25)⟩,
  ⟨(some 27), none, .mov (.tmp 1)⟩,
  ⟨(some 28), none, .call id_ip6_Chain [(.tmp 26), (.tmp 27)]⟩,
  ⟨(some 24), none, .mov (.tmp 28)⟩,
  ⟨(some 29), none, .extract (.tmp 24) 0⟩,
  ⟨(some 30), none, .extract (.tmp 24) 1⟩,
  ⟨(some 31), none, .extract (.tmp 24) 2⟩,
  ⟨(some 32), none, .extract (.tmp 24) 3⟩,
  ⟨(some 9), none, .mov (.tmp 29)⟩,
  ⟨(some 10), none, .mov (.tmp 30)⟩,
  ⟨(some 11), none, .mov (.tmp 31)⟩,
  ⟨(some 12), none, .mov (.tmp 32)⟩] []) (.seq (.reg [
  ⟨(some 13), none, .mov (.cst (LV.int .i64 60))⟩] []) (.seq (.seq (.reg [
  ⟨(some 33), none, .mov (.tmp 3)⟩] []) (.cond (.tmp 33) (.reg [
  ⟨(some 13), none, .mov (.cst (LV.int .i64 43))⟩] []) .skip)) (.seq (.reg [
  ⟨(some 34), none, .mov (.tmp 2)⟩,
  ⟨(some 35), none, .conv .i64 (.tmp 34)⟩,
  ⟨(some 36), none, .bin .mul (.cst (LV.int .i64 8)) (.tmp 35)⟩,
  ⟨(some 37), none, .bin .add (.cst (LV.int .i64 6)) (.tmp 36)⟩,
  ⟨(some 38), none, .call id_interpreterlaw04_zeros [(.tmp 37)]⟩,
  ⟨(some 14), none, .mov (.tmp 38)⟩] []) (.seq (.reg [
  ⟨(some 40), none, .mov (.tmp 13)⟩,
  ⟨(some 41), none, .mov (.tmp 0)⟩,
  ⟨(some 42), none, .mov (.tmp 2)⟩,
  ⟨(some 43), none, .bsl (LV.int .u8 0) 2 [(0, (.tmp 41)), (1, (.tmp 42))]⟩,
  ⟨(some 44), none, .b2s (.tmp 43)⟩,
  ⟨(some 45), none, .mov (.tmp 14)⟩,
  ⟨(some 46), none, .bin .add (.tmp 44) (.tmp 45)⟩,
  ⟨(some 47), none, .mov (.tmp 1)⟩,
  ⟨(some 48), none, .bin .add (.tmp 46) (.tmp 47)⟩,
  ⟨(some 49), none, .call id_ip6_Chain [(.tmp 40), (.tmp 48)]⟩,
  ⟨(some 39), none, .mov (.tmp 49)⟩,
  ⟨(some 50), none, .extract (.tmp 39) 0⟩,
  ⟨(some 51), none, .extract (.tmp 39) 1⟩,
  ⟨(some 52), none, .extract (.tmp 39) 2⟩,
  ⟨(some 53), none, .extract (.tmp 39) 3⟩,
  ⟨(some 15), none, .mov (.tmp 50)⟩,
  ⟨(some 16), none, .mov (.tmp 51)⟩,
  ⟨(some 17), none, .mov (.tmp 52)⟩,
  ⟨(some 18), none, .mov (.tmp 53)⟩] []) (.seq (.seq (.reg [
  ⟨(some 54), none, .mov (.tmp 12)⟩,
  ⟨(some 55), none, .eqNil 1 true (.tmp 54)⟩] []) (.cond (.tmp 55) (.seq (.reg [
  ⟨(some 56), none, .mov (.tmp 18)⟩,
  ⟨(some 57), none, .eqNil 1 true (.tmp 56)⟩,
  ⟨(some 58), none, .mov (.tmp 57)⟩,
  ⟨(some 59), (some (58, true)), .mov (.tmp 9)⟩,
  ⟨(some 60), (some (58, true)), .len false (.tmp 59)⟩,
  ⟨(some 61), (some (58, true)), .bin .eql (.tmp 60) (.cst (LV.int .i64 0))⟩,
  ⟨(some 62), none, .pick (.tmp 58) (.tmp 61) (.cst (LV.bool false))⟩,
  ⟨(some 63), none, .mov (.tmp 62)⟩,
  ⟨(some 64), (some (63, true)), .mov (.tmp 10)⟩,
  ⟨(some 65), (some (63, true)), .bin .eql (.tmp 64) (.cst (LV.int .i64 0))⟩,
  ⟨(some 66), none, .pick (.tmp 63) (.tmp 65) (.cst (LV.bool false))⟩,
  ⟨(some 67), none, .mov (.tmp 66)⟩,
  ⟨(some 68), (some (67, true)), .mov (.tmp 11)⟩,
  ⟨(some 69), (some (67, true)), .bin .eql (.tmp 68) (.cst (LV.str []))⟩,
  ⟨(some 70), none, .pick (.tmp 67) (.tmp 69) (.cst (LV.bool false))⟩,
  ⟨(some 8), none, .mov (.tmp 70)⟩] []) .ret) .skip)) (.seq (.seq (.reg [
  ⟨(some 71), none, .mov (.tmp 9)⟩,
  ⟨(some 72), none, .len false (.tmp 71)⟩,
  ⟨(some 73), none, .bin .eql (.tmp 72) (.cst (LV.int .i64 8))⟩,
  ⟨(some 74), none, .mov (.tmp 73)⟩,
  ⟨(some 75), (some (74, false)), .mov (.tmp 9)⟩,
  ⟨(some 76), (some (74, false)), .len false (.tmp 75)⟩,
  ⟨(some 77), (some (74, false)), .bin .gtr (.tmp 76) (.cst (LV.int .i64 0))⟩,
  ⟨(some 78), (some (74, false)), .mov (.tmp 77)⟩,
  ⟨(some 79), (some (78, true)), .mov (.tmp 9)⟩,
  ⟨(some 80), (some (78, true)), .idxAddr none 2 (.tmp 79) (.cst (LV.int .i64 0))⟩,
  ⟨(some 81), (some (78, true)), .fieldAddr 0 0 (.tmp 80)⟩,
  ⟨(some 82), (some (78, true)), .load 1 false (.tmp 81)⟩,
  ⟨(some 83), (some (78, true)), .bin .eql (.tmp 82) (.cst (LV.int .i64 0))⟩,
  ⟨(some 84), (some (74, false)), .pick (.tmp 78) (.tmp 83) (.cst (LV.bool false))⟩,
  ⟨(some 85), none, .pick (.tmp 74) (.cst (LV.bool true)) (.tmp 84)⟩] []) (.cond (.tmp 85) (.seq (.reg [
  ⟨(some 86), none, .mov (.tmp 18)⟩,
  ⟨(some 87), none, .eqNil 1 true (.tmp 86)⟩,
  ⟨(some 8), none, .mov (.tmp 87)⟩] []) .ret) .skip)) (.seq (.reg [
  ⟨(some 88), none, .mov (.tmp 18)⟩,
  ⟨(some 89), none, .eqNil 1 false (.tmp 88)⟩,
  ⟨(some 90), none, .mov (.tmp 89)⟩,
  ⟨(some 91), (some (90, true)), .mov (.tmp 15)⟩,
  ⟨(some 92), (some (90, true)), .len false (.tmp 91)⟩,
  ⟨(some 93), (some (90, true)), .mov (.tmp 9)⟩,
  ⟨(some 94), (some (90, true)), .len false (.tmp 93)⟩,
  ⟨(some 95), (some (90, true)), .bin .add (.tmp 94) (.cst (LV.int .i64 1))⟩,
  ⟨(some 96), (some (90, true)), .bin .eql (.tmp 92) (.tmp 95)⟩,
  ⟨(some 97), none, .pick (.tmp 90) (.tmp 96) (.cst (LV.bool false))⟩,
  ⟨(some 98), none, .mov (.tmp 97)⟩,
  ⟨(some 99), (some (98, true)), .mov (.tmp 15)⟩,
  ⟨(some 100), (some (98, true)), .idxAddr none 2 (.tmp 99) (.cst (LV.int .i64 0))⟩,
  ⟨(some 101), (some (98, true)), .fieldAddr 0 0 (.tmp 100)⟩,
  ⟨(some 102), (some (98, true)), .load 1 false (.tmp 101)⟩,
  ⟨(some 103), (some (98, true)), .mov (.tmp 13)⟩,
  ⟨(some 104), (some (98, true)), .bin .eql (.tmp 102) (.tmp 103)⟩,
  ⟨(some 105), none, .pick (.tmp 98) (.tmp 104) (.cst (LV.bool false))⟩,
  ⟨(some 106), none, .mov (.tmp 105)⟩,
  ⟨(some 107), (some (106, true)), .mov (.tmp 15)⟩,
  ⟨(some 108), (some (106, true)), .idxAddr none 2 (.tmp 107) (.cst (LV.int .i64 0))⟩,
  ⟨(some 109), (some (106, true)), .fieldAddr 1 1 (.tmp 108)⟩,
  ⟨(some 110), (some (106, true)), .load 1 false (.tmp 109)⟩,
  ⟨(some 111), (some (106, true)), .mov (.tmp 14)⟩,
  ⟨(some 112), (some (106, true)), .bin .eql (.tmp 110) (.tmp 111)⟩,
  ⟨(some 113), none, .pick (.tmp 106) (.tmp 112) (.cst (LV.bool false))⟩,
  ⟨(some 114), none, .mov (.tmp 113)⟩,
  ⟨(some 115), (some (114, true)), .mov (.tmp 15)⟩,
  ⟨(some 116), (some (114, true)), .slc 2 (.tmp 115) (some (.cst (LV.int .i64 1))) none⟩,
  ⟨(some 117), (some (114, true)), .build (LV.agg [(LV.int .i64 0), (LV.int .i64 0), (LV.int .i64 0), (LV.bytes [0, 0, 0, 0, 0, 0, 0, 0, 0, 0, 0, 0, 0, 0, 0, 0]), (LV.bytes [0, 0, 0, 0, 0, 0, 0, 0, 0, 0, 0, 0, 0, 0, 0, 0]), LV.nils, (LV.bool false), (LV.int .u32 0), (LV.int .i64 0), (LV.bool false), (LV.int .i64 0), (LV.str [])]) [(5, (.tmp 116))]⟩,
  ⟨(some 118), (some (114, true)), .mov (.tmp 9)⟩,
  ⟨(some 119), (some (114, true)), .build (LV.agg [(LV.int .i64 0), (LV.int .i64 0), (LV.int .i64 0), (LV.bytes [0, 0, 0, 0, 0, 0, 0, 0, 0, 0, 0, 0, 0, 0, 0, 0]), (LV.bytes [0, 0, 0, 0, 0, 0, 0, 0, 0, 0, 0, 0, 0, 0, 0, 0]), LV.nils, (LV.bool false), (LV.int .u32 0), (LV.int .i64 0), (LV.bool false), (LV.int .i64 0), (LV.str [])]) [(5, (.tmp 118))]⟩,
  ⟨(some 120), (some (114, true)), .call id_interpreterref04_Same [(.tmp 117), (.tmp 119)]⟩,
  ⟨(some 121), none, .pick (.tmp 114) (.tmp 120) (.cst (LV.bool false))⟩,
  ⟨(some 122), none, .mov (.tmp 121)⟩,
  ⟨(some 123), (some (122, true)), .mov (.tmp 16)⟩,
  ⟨(some 124), (some (122, true)), .mov (.tmp 10)⟩,
  ⟨(some 125), (some (122, true)), .bin .eql (.tmp 123) (.tmp 124)⟩,
  ⟨(some 126), none, .pick (.tmp 122) (.tmp 125) (.cst (LV.bool false))⟩,
  ⟨(some 127), none, .mov (.tmp 126)⟩,
  ⟨(some 128), (some (127, true)), .mov (.tmp 17)⟩,
  ⟨(some 129), (some (127, true)), .mov (.tmp 11)⟩,
  ⟨(some 130), (some (127, true)), .bin .eql (.tmp 128) (.tmp 129)⟩,
  ⟨(some 131), none, .pick (.tmp 127) (.tmp 130) (.cst (LV.bool false))⟩,
  ⟨(some 8), none, .mov (.tmp 131)⟩] []) .ret))))))))))), [.tmp 8]⟩
/-- interpreter/interpreterlaw04.Ip6Fields -/
def c_interpreterlaw04_Ip6Fields : MFn := ⟨3, 159, (.seq (.reg [
  ⟨(some 3), none, .box (.tmp 0)⟩,
  ⟨(some 6), none, .mov (.cst (LV.bool false))⟩] []) (.seq (.seq (.reg [
  ⟨(some 15), none, .call id_interpreterlaw04_awake []⟩,
  ⟨(some 16), none, .un .not (.tmp 15)⟩] []) (.cond (.tmp 16) (.seq (.reg [
  ⟨(some 6), none, .mov (.cst (LV.bool false))⟩] []) .ret) .skip)) (.seq (.seq (.reg [
  ⟨(some 17), none, .load 42 true (.tmp 3)⟩,
  ⟨(some 18), none, .call id_interpreterlaw04_Great [(.tmp 17)]⟩] []) (.cond (.tmp 18) (.seq (.reg [
  ⟨(some 6), none, .mov (.cst (LV.bool true))⟩] []) .ret) .skip)) (.seq (.reg [
  ⟨(some 20), none, .load 42 true (.tmp 3)⟩,
  ⟨(some 21), none, .call id_ip6_Bytes [(.tmp 20)]⟩,
  ⟨(some 19), none, .mov (.tmp 21)⟩,
  ⟨(some 22), none, .extract (.tmp 19) 0⟩,
  ⟨(some 23), none, .extract (.tmp 19) 1⟩,
  ⟨(some 7), none, .mov (.tmp 22)⟩,
  ⟨(some 8), none, .mov (.tmp 23)⟩] []) (.seq (.reg [
  ⟨(some 24), none, .load 42 true (.tmp 3)⟩,
  ⟨(some 9), none, .alloc (LV.agg [(LV.int .i64 0), (LV.int .i64 0), (LV.int .i64 0), (LV.bytes [0, 0, 0, 0, 0, 0, 0, 0, 0, 0, 0, 0, 0, 0, 0, 0]), (LV.bytes [0, 0, 0, 0, 0, 0, 0, 0, 0, 0, 0, 0, 0, 0, 0, 0]), LV.nils, (LV.bool false), (LV.int .u32 0), (LV.int .i64 0), (LV.bool false), (LV.int .i64 0), (LV.str [])])⟩,
  ⟨none, none, .store 42 true (.tmp 9) (.tmp 24)⟩] []) (.seq (.reg [
  ⟨(some 25), none, .mov (.tmp 1)⟩,
  ⟨(some 26), none, .conv .i64 (.tmp 25)⟩,
  ⟨(some 27), none, .fieldAddr 2 2 (.tmp 9)⟩,
  ⟨none, none, .store 1 false (.tmp 27) (.tmp 26)⟩] []) (.seq (.reg [
  ⟨(some 28), none, .fieldAddr 4 19 (.tmp 3)⟩,
  ⟨(some 29), none, .load 16 true (.tmp 28)⟩,
  ⟨(some 30), none, .fieldAddr 3 3 (.tmp 3)⟩,
  ⟨(some 31), none, .load 16 true (.tmp 30)⟩,
  ⟨(some 32), none, .fieldAddr 3 3 (.tmp 9)⟩,
  ⟨none, none, .store 16 true (.tmp 32) (.tmp 29)⟩,
  ⟨(some 33), none, .fieldAddr 4 19 (.tmp 9)⟩,
  ⟨none, none, .store 16 true (.tmp 33) (.tmp 31)⟩] [((.tmp 30), (.tmp 32))]) (.seq (.reg [
  ⟨(some 35), none, .load 42 true (.tmp 9)⟩,
  ⟨(some 36), none, .call id_ip6_Bytes [(.tmp 35)]⟩,
  ⟨(some 34), none, .mov (.tmp 36)⟩,
  ⟨(some 37), none, .extract (.tmp 34) 0⟩,
  ⟨(some 38), none, .extract (.tmp 34) 1⟩,
  ⟨(some 10), none, .mov (.tmp 37)⟩,
  ⟨(some 11), none, .mov (.tmp 38)⟩] []) (.seq (.seq (.reg [
  ⟨(some 39), none, .mov (.tmp 8)⟩,
  ⟨(some 40), none, .eqNil 1 true (.tmp 39)⟩,
  ⟨(some 41), none, .mov (.tmp 40)⟩,
  ⟨(some 42), (some (41, false)), .mov (.tmp 11)⟩,
  ⟨(some 43), (some (41, false)), .eqNil 1 true (.tmp 42)⟩,
  ⟨(some 44), none, .pick (.tmp 41) (.cst (LV.bool true)) (.tmp 43)⟩] []) (.cond (.tmp 44) (.seq (.reg [
  ⟨(some 45), none, .mov (.tmp 8)⟩,
  ⟨(some 46), none, .eqNil 1 true (.tmp 45)⟩,
  ⟨(some 47), none, .mov (.tmp 46)⟩,
  ⟨(some 48), (some (47, false)), .mov (.tmp 11)⟩,
  ⟨(some 49), (some (47, false)), .eqNil 1 false (.tmp 48)⟩,
  ⟨(some 50), none, .pick (.tmp 47) (.cst (LV.bool true)) (.tmp 49)⟩,
  ⟨(some 6), none, .mov (.tmp 50)⟩] []) .ret) .skip)) (.seq (.seq (.reg [
  ⟨(some 51), none, .mov (.tmp 7)⟩,
  ⟨(some 52), none, .len true (.tmp 51)⟩,
  ⟨(some 53), none, .bin .lss (.tmp 52) (.cst (LV.int .i64 40))⟩,
  ⟨(some 54), none, .mov (.tmp 53)⟩,
  ⟨(some 55), (some (54, false)), .mov (.tmp 7)⟩,
  ⟨(some 56), (some (54, false)), .len true (.tmp 55)⟩,
  ⟨(some 57), (some (54, false)), .mov (.tmp 10)⟩,
  ⟨(some 58), (some (54, false)), .len true (.tmp 57)⟩,
  ⟨(some 59), (some (54, false)), .bin .neq (.tmp 56) (.tmp 58)⟩,
  ⟨(some 60), none, .pick (.tmp 54) (.cst (LV.bool true)) (.tmp 59)⟩,
  ⟨(some 61), none, .mov (.tmp 60)⟩,
  ⟨(some 62), (some (61, false)), .mov (.tmp 7)⟩,
  ⟨(some 63), (some (61, false)), .slc 0 (.tmp 62) none (some (.cst (LV.int .i64 7)))⟩,
  ⟨(some 64), (some (61, false)), .mov (.tmp 10)⟩,
  ⟨(some 65), (some (61, false)), .slc 0 (.tmp 64) none (some (.cst (LV.int .i64 7)))⟩,
  ⟨(some 66), (some (61, false)), .bin .neq (.tmp 63) (.tmp 65)⟩,
  ⟨(some 67), none, .pick (.tmp 61) (.cst (LV.bool true)) (.tmp 66)⟩,
  ⟨(some 68), none, .mov (.tmp 67)⟩,
  ⟨(some 69), (some (68, false)), .mov (.tmp 10)⟩,
  ⟨(some 70), (some (68, false)), .idxStr (.tmp 69) (.cst (LV.int .i64 7))⟩,
  ⟨(some 71), (some (68, false)), .mov (.tmp 1)⟩,
  ⟨(some 72), (some (68, false)), .bin .neq (.tmp 70) (.tmp 71)⟩,
  ⟨(some 73), none, .pick (.tmp 68) (.cst (LV.bool true)) (.tmp 72)⟩,
  ⟨(some 74), none, .mov (.tmp 73)⟩,
  ⟨(some 75), (some (74, false)), .mov (.tmp 7)⟩,
  ⟨(some 76), (some (74, false)), .slc 0 (.tmp 75) (some (.cst (LV.int .i64 8))) (some (.cst (LV.int .i64 24)))⟩,
  ⟨(some 77), (some (74, false)), .mov (.tmp 10)⟩,
  ⟨(some 78), (some (74, false)), .slc 0 (.tmp 77) (some (.cst (LV.int .i64 24))) (some (.cst (LV.int .i64 40)))⟩,
  ⟨(some 79), (some (74, false)), .bin .neq (.tmp 76) (.tmp 78)⟩,
  ⟨(some 80), none, .pick (.tmp 74) (.cst (LV.bool true)) (.tmp 79)⟩,
  ⟨(some 81), none, .mov (.tmp 80)⟩,
  ⟨(some 82), (some (81, false)), .mov (.tmp 7)⟩,
  ⟨(some 83), (some (81, false)), .slc 0 (.tmp 82) (some (.cst (LV.int .i64 24))) (some (.cst (LV.int .i64 40)))⟩,
  ⟨(some 84), (some (81, false)), .mov (.tmp 10)⟩,
  ⟨(some 85), (some (81, false)), .slc 0 (.tmp 84) (some (.cst (LV.int .i64 8))) (some (.cst (LV.int .i64 24)))⟩,
  ⟨(some 86), (some (81, false)), .bin .neq (.tmp 83) (.tmp 85)⟩,
  ⟨(some 87), none, .pick (.tmp 81) (.cst (LV.bool true)) (.tmp 86)⟩,
  ⟨(some 88), none, .mov (.tmp 87)⟩,
  ⟨(some 89), (some (88, false)), .mov (.tmp 7)⟩,
  ⟨(some 90), (some (88, false)), .slc 0 (.tmp 89) (some (.cst (LV.int .i64 40))) none⟩,
  ⟨(some 91), (some (88, false)), .mov (.tmp 10)⟩,
  ⟨(some 92), (some (88, false)), .slc 0 (.tmp 91) (some (.cst (LV.int .i64 40))) none⟩,
  ⟨(some 93), (some (88, false)), .bin .neq (.tmp 90) (.tmp 92)⟩,
  ⟨(some 94), none, .pick (.tmp 88) (.cst (LV.bool true)) (.tmp 93)⟩] []) (.cond (.tmp 94) (.seq (.reg [
  ⟨(some 6), none, .mov (.cst (LV.bool false))⟩] []) .ret) .skip)) (.seq (.seq (.reg [
  ⟨(some 95), none, .fieldAddr 6 36 (.tmp 3)⟩,
  ⟨(some 96), none, .load 1 false (.tmp 95)⟩] []) (.cond (.tmp 96) (.seq (.reg [
  ⟨(some 6), none, .mov (.cst (LV.bool true))⟩] []) .ret) .skip)) (.seq (.reg [
  ⟨(some 97), none, .fieldAddr 6 36 (.tmp 9)⟩,
  ⟨none, none, .store 1 false (.tmp 97) (.cst (LV.bool true))⟩] []) (.seq (.reg [
  ⟨(some 98), none, .mov (.tmp 2)⟩,
  ⟨(some 99), none, .fieldAddr 7 37 (.tmp 9)⟩,
  ⟨none, none, .store 1 false (.tmp 99) (.tmp 98)⟩] []) (.seq (.reg [
  ⟨(some 101), none, .load 42 true (.tmp 9)⟩,
  ⟨(some 102), none, .call id_ip6_Bytes [(.tmp 101)]⟩,
  ⟨(some 100), none, .mov (.tmp 102)⟩,
  ⟨(some 103), none, .extract (.tmp 100) 0⟩,
  ⟨(some 104), none, .extract (.tmp 100) 1⟩,
  ⟨(some 12), none, .mov (.tmp 103)⟩,
  ⟨(some 13), none, .mov (.tmp 104)⟩] []) (.seq (.seq (.reg [
  ⟨(some 105), none, .mov (.tmp 13)⟩,
  ⟨(some 106), none, .eqNil 1 true (.tmp 105)⟩] []) (.cond (.tmp 106) (.seq (.reg [
  ⟨(some 107), none, .mov (.tmp 7)⟩,
  ⟨(some 108), none, .len true (.tmp 107)⟩,
  ⟨(some 109), none, .bin .add (.tmp 108) (.cst (LV.int .i64 8))⟩,
  ⟨(some 110), none, .bin .gtr (.tmp 109) (.cst (LV.int .i64 65575))⟩,
  ⟨(some 6), none, .mov (.tmp 110)⟩] []) .ret) .skip)) (.seq (.reg [
  ⟨(some 111), none, .mov (.tmp 7)⟩,
  ⟨(some 112), none, .len true (.tmp 111)⟩,
  ⟨(some 113), none, .fieldAddr 11 41 (.tmp 3)⟩,
  ⟨(some 114), none, .load 1 false (.tmp 113)⟩,
  ⟨(some 115), none, .len true (.tmp 114)⟩,
  ⟨(some 116), none, .bin .sub (.tmp 112) (.tmp 115)⟩,
  ⟨(some 14), none, .mov (.tmp 116)⟩] []) (.seq (.reg [
  ⟨(some 117), none, .mov (.tmp 12)⟩,
  ⟨(some 118), none, .len true (.tmp 117)⟩,
  ⟨(some 119), none, .mov (.tmp 7)⟩,
  ⟨(some 120), none, .len true (.tmp 119)⟩,
  ⟨(some 121), none, .bin .add (.tmp 120) (.cst (LV.int .i64 8))⟩,
  ⟨(some 122), none, .bin .eql (.tmp 118) (.tmp 121)⟩,
  ⟨(some 123), none, .mov (.tmp 122)⟩,
  ⟨(some 124), (some (123, true)), .mov (.tmp 14)⟩,
  ⟨(some 125), (some (123, true)), .bin .geq (.tmp 124) (.cst (LV.int .i64 40))⟩,
  ⟨(some 126), none, .pick (.tmp 123) (.tmp 125) (.cst (LV.bool false))⟩,
  ⟨(some 127), none, .mov (.tmp 126)⟩,
  ⟨(some 128), (some (127, true)), .mov (.tmp 12)⟩,
  ⟨(some 129), (some (127, true)), .slc 0 (.tmp 128) none (some (.cst (LV.int .i64 4)))⟩,
  ⟨(some 130), (some (127, true)), .mov (.tmp 10)⟩,
  ⟨(some 131), (some (127, true)), .slc 0 (.tmp 130) none (some (.cst (LV.int .i64 4)))⟩,
  ⟨(some 132), (some (127, true)), .bin .eql (.tmp 129) (.tmp 131)⟩,
  ⟨(some 133), none, .pick (.tmp 127) (.tmp 132) (.cst (LV.bool false))⟩,
  ⟨(some 134), none, .mov (.tmp 133)⟩,
  ⟨(some 135), (some (134, true)), .mov (.tmp 12)⟩,
  ⟨(some 136), (some (134, true)), .slc 0 (.tmp 135) (some (.cst (LV.int .i64 7))) (some (.cst (LV.int .i64 40)))⟩,
  ⟨(some 137), (some (134, true)), .mov (.tmp 10)⟩,
  ⟨(some 138), (some (134, true)), .slc 0 (.tmp 137) (some (.cst (LV.int .i64 7))) (some (.cst (LV.int .i64 40)))⟩,
  ⟨(some 139), (some (134, true)), .bin .eql (.tmp 136) (.tmp 138)⟩,
  ⟨(some 140), none, .pick (.tmp 134) (.tmp 139) (.cst (LV.bool false))⟩,
  ⟨(some 141), none, .mov (.tmp 140)⟩,
  ⟨(some 142), (some (141, true)), .mov (.tmp 12)⟩,
  ⟨(some 143), (some (141, true)), .mov (.tmp 14)⟩,
  ⟨(some 144), (some (141, true)), .bin .add (.tmp 143) (.cst (LV.int .i64 8))⟩,
  ⟨(some 145), (some (141, true)), .slc 0 (.tmp 142) (some (.tmp 144)) none⟩,
  ⟨(some 146), (some (141, true)), .fieldAddr 11 41 (.tmp 3)⟩,
  ⟨(some 147), (some (141, true)), .load 1 false (.tmp 146)⟩,
  ⟨(some 148), (some (141, true)), .bin .eql (.tmp 145) (.tmp 147)⟩,
  ⟨(some 149), none, .pick (.tmp 141) (.tmp 148) (.cst (LV.bool false))⟩,
  ⟨(some 150), none, .mov (.tmp 149)⟩,
  ⟨(some 151), (some (150, true)), .mov (.tmp 12)⟩,
  ⟨(some 152), (some (150, true)), .mov (.tmp 14)⟩,
  ⟨(some 153), (some (150, true)), .idxStr (.tmp 151) (.tmp 152)⟩,
  ⟨(some 154), (some (150, true)), .fieldAddr 10 40 (.tmp 3)⟩,
  ⟨(some 155), (some (150, true)), .load 1 false (.tmp 154)⟩,
  ⟨(some 156), (some (150, true)), .conv .u8 (.tmp 155)⟩,
  ⟨(some 157), (some (150, true)), .bin .eql (.tmp 153) (.tmp 156)⟩,
  ⟨(some 158), none, .pick (.tmp 150) (.tmp 157) (.cst (LV.bool false))⟩,
  ⟨(some 6), none, .mov (.tmp 158)⟩] []) .ret))))))))))))))))), [.tmp 6]⟩
/-- interpreter/interpreterlaw04.Ip6Known -/
def c_interpreterlaw04_Ip6Known : MFn := ⟨0, 112, (.seq (.reg [
  ⟨(some 0), none, .mov (.cst (LV.bool false))⟩] []) (.seq (.reg [
  ⟨(some 16), none, .call id_ip6_Chain [(.cst (LV.int .i64 60)), (.cst (LV.str [17, 0, 1, 4, 0, 0, 0, 0, 104, 105]))]⟩,
  ⟨(some 15), none, .mov (.tmp 16)⟩,
  ⟨(some 17), none, .extract (.tmp 15) 0⟩,
  ⟨(some 18), none, .extract (.tmp 15) 1⟩,
  ⟨(some 19), none, .extract (.tmp 15) 2⟩,
  ⟨(some 20), none, .extract (.tmp 15) 3⟩,
  ⟨(some 1), none, .mov (.tmp 17)⟩,
  ⟨(some 2), none, .mov (.tmp 18)⟩,
  ⟨(some 3), none, .mov (.tmp 19)⟩,
  ⟨(some 4), none, .mov (.tmp 20)⟩] []) (.seq (.reg [
  ⟨(some 22), none, .call id_strings_Repeat [(.cst (LV.str [96])), (.cst (LV.int .i64 39))]⟩,
  ⟨(some 23), none, .call id_ip6_Parse [(.tmp 22)]⟩,
  ⟨(some 21), none, .mov (.tmp 23)⟩,
  ⟨(some 24), none, .extract (.tmp 21) 0⟩,
  ⟨(some 25), none, .extract (.tmp 21) 1⟩,
  ⟨(some 5), none, .alloc (LV.agg [(LV.int .i64 0), (LV.int .i64 0), (LV.int .i64 0), (LV.bytes [0, 0, 0, 0, 0, 0, 0, 0, 0, 0, 0, 0, 0, 0, 0, 0]), (LV.bytes [0, 0, 0, 0, 0, 0, 0, 0, 0, 0, 0, 0, 0, 0, 0, 0]), LV.nils, (LV.bool false), (LV.int .u32 0), (LV.int .i64 0), (LV.bool false), (LV.int .i64 0), (LV.str [])])⟩,
  ⟨none, none, .store 42 true (.tmp 5) (.tmp 24)⟩,
  ⟨(some 6), none, .mov (.tmp 25)⟩] []) (.seq (.reg [
  ⟨(some 27), none, .build (LV.agg [(LV.int .i64 0), (LV.int .i64 0), (LV.int .i64 0), (LV.bytes [0, 0, 0, 0, 0, 0, 0, 0, 0, 0, 0, 0, 0, 0, 0, 0]), (LV.bytes [0, 0, 0, 0, 0, 0, 0, 0, 0, 0, 0, 0, 0, 0, 0, 0]), LV.nils, (LV.bool false), (LV.int .u32 0), (LV.int .i64 0), (LV.bool false), (LV.int .i64 0), (LV.str [])]) [(10, (.cst (LV.int .i64 44)))]⟩,
  ⟨(some 28), none, .call id_ip6_Bytes [(.tmp 27)]⟩,
  ⟨(some 26), none, .mov (.tmp 28)⟩,
  ⟨(some 29), none, .extract (.tmp 26) 0⟩,
  ⟨(some 30), none, .extract (.tmp 26) 1⟩,
  ⟨(some 7), none, .mov (.tmp 29)⟩,
  ⟨(some 8), none, .mov (.tmp 30)⟩] []) (.seq (.reg [
  ⟨(some 32), none, .build (LV.agg [(LV.int .i64 0), (LV.int .i64 0), (LV.int .i64 0), (LV.bytes [0, 0, 0, 0, 0, 0, 0, 0, 0, 0, 0, 0, 0, 0, 0, 0]), (LV.bytes [0, 0, 0, 0, 0, 0, 0, 0, 0, 0, 0, 0, 0, 0, 0, 0]), LV.nils, (LV.bool false), (LV.int .u32 0), (LV.int .i64 0), (LV.bool false), (LV.int .i64 0), (LV.str [])]) [(1, (.cst (LV.int .i64 1048576))), (10, (.cst (LV.int .i64 44)))]⟩,
  ⟨(some 33), none, .call id_ip6_Bytes [(.tmp 32)]⟩,
  ⟨(some 31), none, .mov (.tmp 33)⟩,
  ⟨(some 34), none, .extract (.tmp 31) 0⟩,
  ⟨(some 35), none, .extract (.tmp 31) 1⟩,
  ⟨(some 9), none, .mov (.tmp 34)⟩,
  ⟨(some 10), none, .mov (.tmp 35)⟩] []) (.seq (.reg [
  ⟨(some 37), none, .call id_interpreterlaw04_zeros [(.cst (LV.int .i64 65536))]⟩,
  ⟨(some 38), none, .build (LV.agg [(LV.int .i64 0), (LV.int .i64 0), (LV.int .i64 0), (LV.bytes [0, 0, 0, 0, 0, 0, 0, 0, 0, 0, 0, 0, 0, 0, 0, 0]), (LV.bytes [0, 0, 0, 0, 0, 0, 0, 0, 0, 0, 0, 0, 0, 0, 0, 0]), LV.nils, (LV.bool false), (LV.int .u32 0), (LV.int .i64 0), (LV.bool false), (LV.int .i64 0), (LV.str [])]) [(10, (.cst (LV.int .i64 6))), (11, (.tmp 37))]⟩,
  ⟨(some 39), none, .call id_ip6_Bytes [(.tmp 38)]⟩,
  ⟨(some 36), none, .mov (.tmp 39)⟩,
  ⟨(some 40), none, .extract (.tmp 36) 0⟩,
  ⟨(some 41), none, .extract (.tmp 36) 1⟩,
  ⟨(some 11), none, .mov (.tmp 40)⟩,
  ⟨(some 12), none, .mov (.tmp 41)⟩] []) (.seq (.reg [
  ⟨(some 43), none, .call id_interpreterlaw04_zeros [(.cst (LV.int .i64 65535))]⟩,
  ⟨(some 44), none, .build (LV.agg [(LV.int .i64 0), (LV.int .i64 0), (LV.int .i64 0), (LV.bytes [0, 0, 0, 0, 0, 0, 0, 0, 0, 0, 0, 0, 0, 0, 0, 0]), (LV.bytes [0, 0, 0, 0, 0, 0, 0, 0, 0, 0, 0, 0, 0, 0, 0, 0]), LV.nils, (LV.bool false), (LV.int .u32 0), (LV.int .i64 0), (LV.bool false), (LV.int .i64 0), (LV.str [])]) [(10, (.cst (LV.int .i64 6))), (11, (.tmp 43))]⟩,
  ⟨(some 45), none, .call id_ip6_Bytes [(.tmp 44)]⟩,
  ⟨(some 42), none, .mov (.tmp 45)⟩,
  ⟨(some 46), none, .extract (.tmp 42) 0⟩,
  ⟨(some 47), none, .extract (.tmp 42) 1⟩,
  ⟨(some 13), none, .mov (.tmp 46)⟩,
  ⟨(some 14), none, .mov (.tmp 47)⟩] []) (.seq (.reg [
  ⟨(some 48), none, .call id_interpreterlaw04_awake []⟩,
  ⟨(some 49), none, .mov (.tmp 48)⟩,
  ⟨(some 50), (some (49, true)), .mov (.tmp 4)⟩,
  ⟨(some 51), (some (49, true)), .eqNil 1 false (.tmp 50)⟩,
  ⟨(some 52), none, .pick (.tmp 49) (.tmp 51) (.cst (LV.bool false))⟩,
  ⟨(some 53), none, .mov (.tmp 52)⟩,
  ⟨(some 54), (some (53, true)), .mov (.tmp 1)⟩,
  ⟨(some 55), (some (53, true)), .len false (.tmp 54)⟩,
  ⟨(some 56), (some (53, true)), .bin .eql (.tmp 55) (.cst (LV.int .i64 1))⟩,
  ⟨(some 57), none, .pick (.tmp 53) (.tmp 56) (.cst (LV.bool false))⟩,
  ⟨(some 58), none, .mov (.tmp 57)⟩,
  ⟨(some 59), (some (58, true)), .mov (.tmp 1)⟩,
  ⟨(some 60), (some (58, true)), .idxAddr none 2 (.tmp 59) (.cst (LV.int .i64 0))⟩,
  ⟨(some 61), (some (58, true)), .fieldAddr 0 0 (.tmp 60)⟩,
  ⟨(some 62), (some (58, true)), .load 1 false (.tmp 61)⟩,
  ⟨(some 63), (some (58, true)), .bin .eql (.tmp 62) (.cst (LV.int .i64 60))⟩,
  ⟨(some 64), none, .pick (.tmp 58) (.tmp 63) (.cst (LV.bool false))⟩,
  ⟨(some 65), none, .mov (.tmp 64)⟩,
  ⟨(some 66), (some (65, true)), .mov (.tmp 1)⟩,
  ⟨(some 67), (some (65, true)), .idxAddr none 2 (.tmp 66) (.cst (LV.int .i64 0))⟩,
  ⟨(some 68), (some (65, true)), .fieldAddr 1 1 (.tmp 67)⟩,
  ⟨(some 69), (some (65, true)), .load 1 false (.tmp 68)⟩,
  ⟨(some 70), (some (65, true)), .bin .eql (.tmp 69) (.cst (LV.str [1, 4, 0, 0, 0, 0]))⟩,
  ⟨(some 71), none, .pick (.tmp 65) (.tmp 70) (.cst (LV.bool false))⟩,
  ⟨(some 72), none, .mov (.tmp 71)⟩,
  ⟨(some 73), (some (72, true)), .mov (.tmp 2)⟩,
  ⟨(some 74), (some (72, true)), .bin .eql (.tmp 73) (.cst (LV.int .i64 17))⟩,
  ⟨(some 75), none, .pick (.tmp 72) (.tmp 74) (.cst (LV.bool false))⟩,
  ⟨(some 76), none, .mov (.tmp 75)⟩,
  ⟨(some 77), (some (76, true)), .mov (.tmp 3)⟩,
  ⟨(some 78), (some (76, true)), .bin .eql (.tmp 77) (.cst (LV.str [104, 105]))⟩,
  ⟨(some 79), none, .pick (.tmp 76) (.tmp 78) (.cst (LV.bool false))⟩,
  ⟨(some 80), none, .mov (.tmp 79)⟩,
  ⟨(some 81), (some (80, true)), .mov (.tmp 6)⟩,
  ⟨(some 82), (some (80, true)), .call id_interpreterlaw04_same [(.tmp 81), (.cst (LV.int .i64 7))]⟩,
  ⟨(some 83), none, .pick (.tmp 80) (.tmp 82) (.cst (LV.bool false))⟩,
  ⟨(some 84), none, .mov (.tmp 83)⟩,
  ⟨(some 85), (some (84, true)), .mov (.tmp 8)⟩,
  ⟨(some 86), (some (84, true)), .call id_interpreterlaw04_same [(.tmp 85), (.cst (LV.int .i64 10))]⟩,
  ⟨(some 87), none, .pick (.tmp 84) (.tmp 86) (.cst (LV.bool false))⟩,
  ⟨(some 88), none, .mov (.tmp 87)⟩,
  ⟨(some 89), (some (88, true)), .mov (.tmp 10)⟩,
  ⟨(some 90), (some (88, true)), .call id_interpreterlaw04_same [(.tmp 89), (.cst (LV.int .i64 13))]⟩,
  ⟨(some 91), none, .pick (.tmp 88) (.tmp 90) (.cst (LV.bool false))⟩,
  ⟨(some 92), none, .mov (.tmp 91)⟩,
  ⟨(some 93), (some (92, true)), .mov (.tmp 12)⟩,
  ⟨(some 94), (some (92, true)), .call id_interpreterlaw04_same [(.tmp 93), (.cst (LV.int .i64 3))]⟩,
  ⟨(some 95), none, .pick (.tmp 92) (.tmp 94) (.cst (LV.bool false))⟩,
  ⟨(some 96), none, .mov (.tmp 95)⟩,
  ⟨(some 97), (some (96, true)), .mov (.tmp 14)⟩,
  ⟨(some 98), (some (96, true)), .eqNil 1 false (.tmp 97)⟩,
  ⟨(some 99), none, .pick (.tmp 96) (.tmp 98) (.cst (LV.bool false))⟩,
  ⟨(some 100), none, .mov (.tmp 99)⟩,
  ⟨(some 101), (some (100, true)), .build (LV.agg [(LV.int .i64 0), (LV.str [])]) [(0, (.cst (LV.int .i64 43))), (1, (.cst (LV.str [0, 1])))]⟩,
  ⟨(some 102), (some (100, true)), .bsl (LV.agg [(LV.int .i64 0), (LV.str [])]) 1 [(0, (.tmp 101))]⟩,
  ⟨(some 103), (some (100, true)), .call id_ip6_Routed [(.tmp 102)]⟩,
  ⟨(some 104), none, .pick (.tmp 100) (.tmp 103) (.cst (LV.bool false))⟩,
  ⟨(some 105), none, .mov (.tmp 104)⟩,
  ⟨(some 106), (some (105, true)), .build (LV.agg [(LV.int .i64 0), (LV.str [])]) [(0, (.cst (LV.int .i64 60))), (1, (.cst (LV.str [0, 1])))]⟩,
  ⟨(some 107), (some (105, true)), .build (LV.agg [(LV.int .i64 0), (LV.str [])]) [(0, (.cst (LV.int .i64 43))), (1, (.cst (LV.str [1, 0])))]⟩,
  ⟨(some 108), (some (105, true)), .bsl (LV.agg [(LV.int .i64 0), (LV.str [])]) 2 [(0, (.tmp 106)), (1, (.tmp 107))]⟩,
  ⟨(some 109), (some (105, true)), .call id_ip6_Routed [(.tmp 108)]⟩,
  ⟨(some 110), (some (105, true)), .un .not (.tmp 109)⟩,
  ⟨(some 111), none, .pick (.tmp 105) (.tmp 110) (.cst (LV.bool false))⟩,
  ⟨(some 0), none, .mov (.tmp 111)⟩] []) .ret)))))))), [.tmp 0]⟩
/-- interpreter/interpreterlaw04.Ip6Writes -/
def c_interpreterlaw04_Ip6Writes : MFn := ⟨1, 38, (.seq (.reg [
  ⟨(some 1), none, .box (.tmp 0)⟩,
  ⟨(some 2), none, .mov (.cst (LV.bool false))⟩] []) (.seq (.seq (.reg [
  ⟨(some 7), none, .call id_interpreterlaw04_awake []⟩,
  ⟨(some 8), none, .un .not (.tmp 7)⟩] []) (.cond (.tmp 8) (.seq (.reg [
  ⟨(some 2), none, .mov (.cst (LV.bool false))⟩] []) .ret) .skip)) (.seq (.seq (.reg [
  ⟨(some 9), none, .load 42 true (.tmp 1)⟩,
  ⟨(some 10), none, .call id_interpreterlaw04_Great [(.tmp 9)]⟩] []) (.cond (.tmp 10) (.seq (.reg [
  ⟨(some 2), none, .mov (.cst (LV.bool true))⟩] []) .ret) .skip)) (.seq (.reg [
  ⟨(some 12), none, .load 42 true (.tmp 1)⟩,
  ⟨(some 13), none, .call id_ip6_Bytes [(.tmp 12)]⟩,
  ⟨(some 11), none, .mov (.tmp 13)⟩,
  ⟨(some 14), none, .extract (.tmp 11) 0⟩,
  ⟨(some 15), none, .extract (.tmp 11) 1⟩,
  ⟨(some 3), none, .mov (.tmp 14)⟩,
  ⟨(some 4), none, .mov (.tmp 15)⟩] []) (.seq (.reg [
  ⟨(some 17), none, .load 42 true (.tmp 1)⟩,
  ⟨(some 18), none, .call id_interpreterref04_Bytes [(.tmp 17)]⟩,
  ⟨(some 16), none, .mov (.tmp 18)⟩,
  ⟨(some 19), none, .extract (.tmp 16) 0⟩,
  ⟨(some 20), none, .extract (.tmp 16) 1⟩,
  ⟨(some 5), none, .mov (.tmp 19)⟩,
  ⟨(some 6), none, .mov (.tmp 20)⟩] []) (.seq (.reg [
  ⟨(some 21), none, .mov (.tmp 3)⟩,
  ⟨(some 22), none, .mov (.tmp 5)⟩,
  ⟨(some 23), none, .bin .eql (.tmp 21) (.tmp 22)⟩,
  ⟨(some 24), none, .mov (.tmp 23)⟩,
  ⟨(some 25), (some (24, true)), .mov (.tmp 4)⟩,
  ⟨(some 26), (some (24, true)), .mov (.tmp 6)⟩,
  ⟨(some 27), (some (24, true)), .call id_interpreterlaw04_same [(.tmp 25), (.tmp 26)]⟩,
  ⟨(some 28), none, .pick (.tmp 24) (.tmp 27) (.cst (LV.bool false))⟩,
  ⟨(some 29), none, .mov (.tmp 28)⟩,
  ⟨(some 30), (some (29, true)), .fieldAddr 5 35 (.tmp 1)⟩,
  ⟨(some 31), (some (29, true)), .load 1 false (.tmp 30)⟩,
  ⟨(some 32), (some (29, true)), .call id_ip6_Routed [(.tmp 31)]⟩,
  ⟨(some 33), (some (29, true)), .fieldAddr 5 35 (.tmp 1)⟩,
  ⟨(some 34), (some (29, true)), .load 1 false (.tmp 33)⟩,
  ⟨(some 35), (some (29, true)), .call id_interpreterref04_Routed [(.tmp 34)]⟩,
  ⟨(some 36), (some (29, true)), .eqB false (.tmp 32) (.tmp 35)⟩,
  ⟨(some 37), none, .pick (.tmp 29) (.tmp 36) (.cst (LV.bool false))⟩,
  ⟨(some 2), none, .mov (.tmp 37)⟩] []) .ret)))))), [.tmp 2]⟩
/-- interpreter/interpreterlaw04.awake -/
def c_interpreterlaw04_awake : MFn := ⟨0, 35, (.seq (.reg [
  ⟨(some 0), none, .mov (.cst (LV.bool false))⟩] []) (.seq (.reg [
  ⟨(some 6), none, .build (LV.agg [(LV.int .i64 0), (LV.int .i64 0), (LV.int .i64 0), (LV.bytes [0, 0, 0, 0, 0, 0, 0, 0, 0, 0, 0, 0, 0, 0, 0, 0]), (LV.bytes [0, 0, 0, 0, 0, 0, 0, 0, 0, 0, 0, 0, 0, 0, 0, 0]), LV.nils, (LV.bool false), (LV.int .u32 0), (LV.int .i64 0), (LV.bool false), (LV.int .i64 0), (LV.str [])]) [(2, (.cst (LV.int .i64 64))), (10, (.cst (LV.int .i64 17))), (11, (.cst (LV.str [104, 105])))]⟩,
  ⟨(some 1), none, .alloc (LV.agg [(LV.int .i64 0), (LV.int .i64 0), (LV.int .i64 0), (LV.bytes [0, 0, 0, 0, 0, 0, 0, 0, 0, 0, 0, 0, 0, 0, 0, 0]), (LV.bytes [0, 0, 0, 0, 0, 0, 0, 0, 0, 0, 0, 0, 0, 0, 0, 0]), LV.nils, (LV.bool false), (LV.int .u32 0), (LV.int .i64 0), (LV.bool false), (LV.int .i64 0), (LV.str [])])⟩,
  ⟨none, none, .store 42 true (.tmp 1) (.tmp 6)⟩] []) (.seq (.reg [
  ⟨(some 8), none, .load 42 true (.tmp 1)⟩,
  ⟨(some 9), none, .call id_ip6_Bytes [(.tmp 8)]⟩,
  ⟨(some 7), none, .mov (.tmp 9)⟩,
  ⟨(some 10), none, .extract (.tmp 7) 0⟩,
  ⟨(some 11), none, .extract (.tmp 7) 1⟩,
  ⟨(some 2), none, .mov (.tmp 10)⟩,
  ⟨(some 3), none, .mov (.tmp 11)⟩] []) (.seq (.reg [
  ⟨(some 13), none, .mov (.tmp 2)⟩,
  ⟨(some 14), none, .call id_ip6_Parse [(.tmp 13)]⟩,
  ⟨(some 12), none, .mov (.tmp 14)⟩,
  ⟨(some 15), none, .extract (.tmp 12) 0⟩,
  ⟨(some 16), none, .extract (.tmp 12) 1⟩,
  ⟨(some 4), none, .alloc (LV.agg [(LV.int .i64 0), (LV.int .i64 0), (LV.int .i64 0), (LV.bytes [0, 0, 0, 0, 0, 0, 0, 0, 0, 0, 0, 0, 0, 0, 0, 0]), (LV.bytes [0, 0, 0, 0, 0, 0, 0, 0, 0, 0, 0, 0, 0, 0, 0, 0]), LV.nils, (LV.bool false), (LV.int .u32 0), (LV.int .i64 0), (LV.bool false), (LV.int .i64 0), (LV.str [])])⟩,
  ⟨none, none, .store 42 true (.tmp 4) (.tmp 15)⟩,
  ⟨(some 5), none, .mov (.tmp 16)⟩] []) (.seq (.reg [
  ⟨(some 17), none, .mov (.tmp 3)⟩,
  ⟨(some 18), none, .eqNil 1 false (.tmp 17)⟩,
  ⟨(some 19), none, .mov (.tmp 18)⟩,
  ⟨(some 20), (some (19, true)), .mov (.tmp 5)⟩,
  ⟨(some 21), (some (19, true)), .eqNil 1 false (.tmp 20)⟩,
  ⟨(some 22), none, .pick (.tmp 19) (.tmp 21) (.cst (LV.bool false))⟩,
  ⟨(some 23), none, .mov (.tmp 22)⟩,
  ⟨(some 24), (some (23, true)), .load 42 true (.tmp 1)⟩,
  ⟨(some 25), (some (23, true)), .load 42 true (.tmp 4)⟩,
  ⟨(some 26), (some (23, true)), .call id_interpreterref04_Same [(.tmp 24), (.tmp 25)]⟩,
  ⟨(some 27), none, .pick (.tmp 23) (.tmp 26) (.cst (LV.bool false))⟩,
  ⟨(some 28), none, .mov (.tmp 27)⟩,
  ⟨(some 29), (some (28, true)), .mov (.tmp 2)⟩,
  ⟨(some 30), (some (28, true)), .call id_interpreterlaw04_zeros [(.cst (LV.int .i64 32))]⟩,
  ⟨(some 31), (some (28, true)), .bin .add (.cst (LV.str [96, 0, 0, 0, 0, 2, 17, 64])) (.tmp 30)⟩,
  ⟨(some 32), (some (28, true)), .bin .add (.tmp 31) (.cst (LV.str [104, 105]))⟩,
  ⟨(some 33), (some (28, true)), .bin .eql (.tmp 29) (.tmp 32)⟩,
  ⟨(some 34), none, .pick (.tmp 28) (.tmp 33) (.cst (LV.bool false))⟩,
  ⟨(some 0), none, .mov (.tmp 34)⟩] []) .ret))))), [.tmp 0]⟩
/-- interpreter/ip6.Parse -/
def c_ip6_Parse : MFn := ⟨1, 147, (.seq (.reg [
  ⟨(some 2), none, .alloc (LV.agg [(LV.int .i64 0), (LV.int .i64 0), (LV.int .i64 0), (LV.bytes [0, 0, 0, 0, 0, 0, 0, 0, 0, 0, 0, 0, 0, 0, 0, 0]), (LV.bytes [0, 0, 0, 0, 0, 0, 0, 0, 0, 0, 0, 0, 0, 0, 0, 0]), LV.nils, (LV.bool false), (LV.int .u32 0), (LV.int .i64 0), (LV.bool false), (LV.int .i64 0), (LV.str [])])⟩,
  ⟨(some 3), none, .mov (.cst LV.nili)⟩] []) (.seq (.reg [
  ⟨(some 4), none, .alloc (LV.agg [(LV.int .i64 0), (LV.int .i64 0), (LV.int .i64 0), (LV.bytes [0, 0, 0, 0, 0, 0, 0, 0, 0, 0, 0, 0, 0, 0, 0, 0]), (LV.bytes [0, 0, 0, 0, 0, 0, 0, 0, 0, 0, 0, 0, 0, 0, 0, 0]), LV.nils, (LV.bool false), (LV.int .u32 0), (LV.int .i64 0), (LV.bool false), (LV.int .i64 0), (LV.str [])])⟩] []) (.seq (.seq (.reg [
  ⟨(some 13), none, .mov (.tmp 0)⟩,
  ⟨(some 14), none, .len true (.tmp 13)⟩,
  ⟨(some 15), none, .bin .lss (.tmp 14) (.cst (LV.int .i64 40))⟩] []) (.cond (.tmp 15) (.seq (.reg [
  ⟨(some 16), none, .load 42 true (.tmp 4)⟩,
  ⟨(some 17), none, .call id_ip6_fault [(.cst (LV.int .i64 7))]⟩,
  ⟨none, none, .store 42 true (.tmp 2) (.tmp 16)⟩,
  ⟨(some 3), none, .mov (.tmp 17)⟩] []) .ret) .skip)) (.seq (.seq (.reg [
  ⟨(some 18), none, .mov (.tmp 0)⟩,
  ⟨(some 19), none, .idxStr (.tmp 18) (.cst (LV.int .i64 0))⟩,
  ⟨(some 20), none, .bin .shr (.tmp 19) (.cst (LV.int .u64 4))⟩,
  ⟨(some 21), none, .bin .neq (.tmp 20) (.cst (LV.int .u8 6))⟩] []) (.cond (.tmp 21) (.seq (.reg [
  ⟨(some 22), none, .load 42 true (.tmp 4)⟩,
  ⟨(some 23), none, .call id_ip6_fault [(.cst (LV.int .i64 8))]⟩,
  ⟨none, none, .store 42 true (.tmp 2) (.tmp 22)⟩,
  ⟨(some 3), none, .mov (.tmp 23)⟩] []) .ret) .skip)) (.seq (.reg [
  ⟨(some 24), none, .mov (.tmp 0)⟩,
  ⟨(some 25), none, .idxStr (.tmp 24) (.cst (LV.int .i64 4))⟩,
  ⟨(some 26), none, .conv .i64 (.tmp 25)⟩,
  ⟨(some 27), none, .bin .shl (.tmp 26) (.cst (LV.int .u64 8))⟩,
  ⟨(some 28), none, .mov (.tmp 0)⟩,
  ⟨(some 29), none, .idxStr (.tmp 28) (.cst (LV.int .i64 5))⟩,
  ⟨(some 30), none, .conv .i64 (.tmp 29)⟩,
  ⟨(some 31), none, .bin .or (.tmp 27) (.tmp 30)⟩,
  ⟨(some 5), none, .mov (.tmp 31)⟩] []) (.seq (.seq (.reg [
  ⟨(some 32), none, .mov (.tmp 0)⟩,
  ⟨(some 33), none, .len true (.tmp 32)⟩,
  ⟨(some 34), none, .mov (.tmp 5)⟩,
  ⟨(some 35), none, .bin .add (.cst (LV.int .i64 40)) (.tmp 34)⟩,
  ⟨(some 36), none, .bin .lss (.tmp 33) (.tmp 35)⟩] []) (.cond (.tmp 36) (.seq (.reg [
  ⟨(some 37), none, .load 42 true (.tmp 4)⟩,
  ⟨(some 38), none, .call id_ip6_fault [(.cst (LV.int .i64 7))]⟩,
  ⟨none, none, .store 42 true (.tmp 2) (.tmp 37)⟩,
  ⟨(some 3), none, .mov (.tmp 38)⟩] []) .ret) .skip)) (.seq (.reg [
  ⟨(some 40), none, .mov (.tmp 0)⟩,
  ⟨(some 41), none, .callFr id_num_New [(.tmp 40)]⟩,
  ⟨(some 42), none, .callRw id_num_Reader_U32 [(.tmp 41)]⟩,
  ⟨(some 39), none, .mov (.tmp 42)⟩,
  ⟨(some 43), none, .extract (.tmp 39) 0⟩,
  ⟨(some 44), none, .extract (.tmp 39) 1⟩,
  ⟨(some 6), none, .mov (.tmp 43)⟩,
  ⟨(some 7), none, .mov (.tmp 44)⟩] []) (.seq (.reg [
  ⟨(some 45), none, .mov (.tmp 6)⟩,
  ⟨(some 46), none, .bin .shr (.tmp 45) (.cst (LV.int .u64 20))⟩,
  ⟨(some 47), none, .bin .and (.tmp 46) (.cst (LV.int .i64 255))⟩,
  ⟨(some 48), none, .mov (.tmp 6)⟩,
  ⟨(some 49), none, .bin .and (.tmp 48) (.cst (LV.int .i64 1048575))⟩,
  ⟨(some 50), none, .mov (.tmp 0)⟩,
  ⟨(some 51), none, .idxStr (.tmp 50) (.cst (LV.int .i64 7))⟩,
  ⟨(some 52), none, .conv .i64 (.tmp 51)⟩,
  ⟨(some 53), none, .build (LV.agg [(LV.int .i64 0), (LV.int .i64 0), (LV.int .i64 0), (LV.bytes [0, 0, 0, 0, 0, 0, 0, 0, 0, 0, 0, 0, 0, 0, 0, 0]), (LV.bytes [0, 0, 0, 0, 0, 0, 0, 0, 0, 0, 0, 0, 0, 0, 0, 0]), LV.nils, (LV.bool false), (LV.int .u32 0), (LV.int .i64 0), (LV.bool false), (LV.int .i64 0), (LV.str [])]) [(0, (.tmp 47)), (1, (.tmp 49)), (2, (.tmp 52))]⟩,
  ⟨(some 8), none, .alloc (LV.agg [(LV.int .i64 0), (LV.int .i64 0), (LV.int .i64 0), (LV.bytes [0, 0, 0, 0, 0, 0, 0, 0, 0, 0, 0, 0, 0, 0, 0, 0]), (LV.bytes [0, 0, 0, 0, 0, 0, 0, 0, 0, 0, 0, 0, 0, 0, 0, 0]), LV.nils, (LV.bool false), (LV.int .u32 0), (LV.int .i64 0), (LV.bool false), (LV.int .i64 0), (LV.str [])])⟩,
  ⟨none, none, .store 42 true (.tmp 8) (.tmp 53)⟩] []) (.seq (.reg [
  ⟨(some 54), none, .fieldAddr 3 3 (.tmp 8)⟩,
  ⟨(some 55), none, .slcArr 16 (.tmp 54) none none⟩,
  ⟨(some 56), none, .mov (.tmp 0)⟩,
  ⟨(some 57), none, .slc 0 (.tmp 56) (some (.cst (LV.int .i64 8))) none⟩,
  ⟨(some 58), none, .copy (.tmp 55) (.tmp 57)⟩] []) (.seq (.reg [
  ⟨(some 59), none, .fieldAddr 4 19 (.tmp 8)⟩,
  ⟨(some 60), none, .slcArr 16 (.tmp 59) none none⟩,
  ⟨(some 61), none, .mov (.tmp 0)⟩,
  ⟨(some 62), none, .slc 0 (.tmp 61) (some (.cst (LV.int .i64 24))) none⟩,
  ⟨(some 63), none, .copy (.tmp 60) (.tmp 62)⟩] []) (.seq (.reg [
  ⟨(some 9), none, .mov (.cst LV.nili)⟩] []) (.seq (.reg [
  ⟨(some 65), none, .mov (.tmp 0)⟩,
  ⟨(some 66), none, .idxStr (.tmp 65) (.cst (LV.int .i64 6))⟩,
  ⟨(some 67), none, .conv .i64 (.tmp 66)⟩,
  ⟨(some 68), none, .mov (.tmp 0)⟩,
  ⟨(some 69), none, .mov (.tmp 5)⟩,
  ⟨(some 70), none, .bin .add (.cst (LV.int .i64 40)) (.tmp 69)⟩,
  ⟨(some 71), none, .slc 0 (.tmp 68) (some (.cst (LV.int .i64 40))) (some (.tmp 70))⟩,
  ⟨(some 72), none, .call id_ip6_Chain [(.tmp 67), (.tmp 71)]⟩,
  ⟨(some 64), none, .mov (.tmp 72)⟩,
  ⟨(some 73), none, .extract (.tmp 64) 0⟩,
  ⟨(some 74), none, .extract (.tmp 64) 1⟩,
  ⟨(some 75), none, .extract (.tmp 64) 2⟩,
  ⟨(some 76), none, .extract (.tmp 64) 3⟩,
  ⟨(some 77), none, .fieldAddr 5 35 (.tmp 8)⟩,
  ⟨none, none, .store 1 false (.tmp 77) (.tmp 73)⟩,
  ⟨(some 78), none, .fieldAddr 10 40 (.tmp 8)⟩,
  ⟨none, none, .store 1 false (.tmp 78) (.tmp 74)⟩,
  ⟨(some 79), none, .fieldAddr 11 41 (.tmp 8)⟩,
  ⟨none, none, .store 1 false (.tmp 79) (.tmp 75)⟩,
  ⟨(some 9), none, .mov (.tmp 76)⟩] []) (.seq (.seq (.reg [
  ⟨(some 80), none, .mov (.tmp 9)⟩,
  ⟨(some 81), none, .eqNil 1 true (.tmp 80)⟩] []) (.cond (.tmp 81) (.seq (.reg [
  ⟨(some 82), none, .load 42 true (.tmp 4)⟩,
  ⟨(some 83), none, .mov (.tmp 9)⟩,
  ⟨none, none, .store 42 true (.tmp 2) (.tmp 82)⟩,
  ⟨(some 3), none, .mov (.tmp 83)⟩] []) .ret) .skip)) (.seq (.seq (.reg [
  ⟨(some 84), none, .fieldAddr 10 40 (.tmp 8)⟩,
  ⟨(some 85), none, .load 1 false (.tmp 84)⟩,
  ⟨(some 86), none, .bin .neq (.tmp 85) (.cst (LV.int .i64 44))⟩] []) (.cond (.tmp 86) (.seq (.reg [
  ⟨(some 87), none, .load 42 true (.tmp 8)⟩,
  ⟨none, none, .store 42 true (.tmp 2) (.tmp 87)⟩,
  ⟨(some 3), none, .mov (.cst LV.nili)⟩] []) .ret) .skip)) (.seq (.seq (.reg [
  ⟨(some 88), none, .fieldAddr 11 41 (.tmp 8)⟩,
  ⟨(some 89), none, .load 1 false (.tmp 88)⟩,
  ⟨(some 90), none, .len true (.tmp 89)⟩,
  ⟨(some 91), none, .bin .lss (.tmp 90) (.cst (LV.int .i64 8))⟩] []) (.cond (.tmp 91) (.seq (.reg [
  ⟨(some 92), none, .load 42 true (.tmp 4)⟩,
  ⟨(some 93), none, .call id_ip6_fault [(.cst (LV.int .i64 7))]⟩,
  ⟨none, none, .store 42 true (.tmp 2) (.tmp 92)⟩,
  ⟨(some 3), none, .mov (.tmp 93)⟩] []) .ret) .skip)) (.seq (.reg [
  ⟨(some 94), none, .fieldAddr 11 41 (.tmp 8)⟩,
  ⟨(some 95), none, .load 1 false (.tmp 94)⟩,
  ⟨(some 96), none, .idxStr (.tmp 95) (.cst (LV.int .i64 2))⟩,
  ⟨(some 97), none, .conv .i64 (.tmp 96)⟩,
  ⟨(some 98), none, .bin .shl (.tmp 97) (.cst (LV.int .u64 8))⟩,
  ⟨(some 99), none, .fieldAddr 11 41 (.tmp 8)⟩,
  ⟨(some 100), none, .load 1 false (.tmp 99)⟩,
  ⟨(some 101), none, .idxStr (.tmp 100) (.cst (LV.int .i64 3))⟩,
  ⟨(some 102), none, .conv .i64 (.tmp 101)⟩,
  ⟨(some 103), none, .bin .or (.tmp 98) (.tmp 102)⟩,
  ⟨(some 10), none, .mov (.tmp 103)⟩] []) (.seq (.reg [
  ⟨(some 105), none, .fieldAddr 11 41 (.tmp 8)⟩,
  ⟨(some 106), none, .load 1 false (.tmp 105)⟩,
  ⟨(some 107), none, .slc 0 (.tmp 106) (some (.cst (LV.int .i64 4))) none⟩,
  ⟨(some 108), none, .callFr id_num_New [(.tmp 107)]⟩,
  ⟨(some 109), none, .callRw id_num_Reader_U32 [(.tmp 108)]⟩,
  ⟨(some 104), none, .mov (.tmp 109)⟩,
  ⟨(some 110), none, .extract (.tmp 104) 0⟩,
  ⟨(some 111), none, .extract (.tmp 104) 1⟩,
  ⟨(some 11), none, .mov (.tmp 110)⟩,
  ⟨(some 12), none, .mov (.tmp 111)⟩] []) (.seq (.reg [
  ⟨(some 112), none, .mov (.tmp 11)⟩,
  ⟨(some 113), none, .conv .u32 (.tmp 112)⟩,
  ⟨(some 114), none, .mov (.tmp 10)⟩,
  ⟨(some 115), none, .bin .andNot (.tmp 114) (.cst (LV.int .i64 7))⟩,
  ⟨(some 116), none, .mov (.tmp 10)⟩,
  ⟨(some 117), none, .bin .and (.tmp 116) (.cst (LV.int .i64 1))⟩,
  ⟨(some 118), none, .bin .neq (.tmp 117) (.cst (LV.int .i64 0))⟩,
  ⟨(some 119), none, .fieldAddr 11 41 (.tmp 8)⟩,
  ⟨(some 120), none, .load 1 false (.tmp 119)⟩,
  ⟨(some 121), none, .idxStr (.tmp 120) (.cst (LV.int .i64 0))⟩,
  ⟨(some 122), none, .conv .i64 (.tmp 121)⟩,
  ⟨(some 123), none, .fieldAddr 11 41 (.tmp 8)⟩,
  ⟨(some 124), none, .load 1 false (.tmp 123)⟩,
  ⟨(some 125), none, .slc 0 (.tmp 124) (some (.cst (LV.int .i64 8))) none⟩,
  ⟨(some 126), none, .fieldAddr 6 36 (.tmp 8)⟩,
  ⟨none, none, .store 1 false (.tmp 126) (.cst (LV.bool true))⟩,
  ⟨(some 127), none, .fieldAddr 7 37 (.tmp 8)⟩,
  ⟨none, none, .store 1 false (.tmp 127) (.tmp 113)⟩,
  ⟨(some 128), none, .fieldAddr 8 38 (.tmp 8)⟩,
  ⟨none, none, .store 1 false (.tmp 128) (.tmp 115)⟩,
  ⟨(some 129), none, .fieldAddr 9 39 (.tmp 8)⟩,
  ⟨none, none, .store 1 false (.tmp 129) (.tmp 118)⟩,
  ⟨(some 130), none, .fieldAddr 10 40 (.tmp 8)⟩,
  ⟨none, none, .store 1 false (.tmp 130) (.tmp 122)⟩,
  ⟨(some 131), none, .fieldAddr 11 41 (.tmp 8)⟩,
  ⟨none, none, .store 1 false (.tmp 131) (.tmp 125)⟩] []) (.seq (.seq (.reg [
  ⟨(some 132), none, .load 42 true (.tmp 8)⟩,
  ⟨(some 133), none, .call id_ip6_pieced [(.tmp 132)]⟩,
  ⟨(some 134), none, .un .not (.tmp 133)⟩,
  ⟨(some 135), none, .mov (.tmp 134)⟩,
  ⟨(some 136), (some (135, false)), .fieldAddr 11 41 (.tmp 8)⟩,
  ⟨(some 137), (some (135, false)), .load 1 false (.tmp 136)⟩,
  ⟨(some 138), (some (135, false)), .len true (.tmp 137)⟩,
  ⟨(some 139), (some (135, false)), .fieldAddr 8 38 (.tmp 8)⟩,
  ⟨(some 140), (some (135, false)), .load 1 false (.tmp 139)⟩,
  ⟨(some 141), (some (135, false)), .bin .sub (.cst (LV.int .i64 65535)) (.tmp 140)⟩,
  ⟨(some 142), (some (135, false)), .bin .gtr (.tmp 138) (.tmp 141)⟩,
  ⟨(some 143), none, .pick (.tmp 135) (.cst (LV.bool true)) (.tmp 142)⟩] []) (.cond (.tmp 143) (.seq (.reg [
  ⟨(some 144), none, .load 42 true (.tmp 4)⟩,
  ⟨(some 145), none, .call id_ip6_fault [(.cst (LV.int .i64 8))]⟩,
  ⟨none, none, .store 42 true (.tmp 2) (.tmp 144)⟩,
  ⟨(some 3), none, .mov (.tmp 145)⟩] []) .ret) .skip)) (.seq (.reg [
  ⟨(some 146), none, .load 42 true (.tmp 8)⟩,
  ⟨none, none, .store 42 true (.tmp 2) (.tmp 146)⟩,
  ⟨(some 3), none, .mov (.cst LV.nili)⟩] []) .ret)))))))))))))))))))), [.cell 2 42 true, .tmp 3]⟩
/-- interpreter/interpreterref04.Parse -/
def c_interpreterref04_Parse : MFn := ⟨1, 138, (.seq (.reg [
  ⟨(some 2), none, .alloc (LV.agg [(LV.int .i64 0), (LV.int .i64 0), (LV.int .i64 0), (LV.bytes [0, 0, 0, 0, 0, 0, 0, 0, 0, 0, 0, 0, 0, 0, 0, 0]), (LV.bytes [0, 0, 0, 0, 0, 0, 0, 0, 0, 0, 0, 0, 0, 0, 0, 0]), LV.nils, (LV.bool false), (LV.int .u32 0), (LV.int .i64 0), (LV.bool false), (LV.int .i64 0), (LV.str [])])⟩,
  ⟨(some 3), none, .mov (.cst (LV.int .i64 0))⟩] []) (.seq (.reg [
  ⟨(some 13), none, .build (LV.agg [(LV.int .i64 0), (LV.int .i64 0), (LV.int .i64 0), (LV.bytes [0, 0, 0, 0, 0, 0, 0, 0, 0, 0, 0, 0, 0, 0, 0, 0]), (LV.bytes [0, 0, 0, 0, 0, 0, 0, 0, 0, 0, 0, 0, 0, 0, 0, 0]), LV.nils, (LV.bool false), (LV.int .u32 0), (LV.int .i64 0), (LV.bool false), (LV.int .i64 0), (LV.str [])]) []⟩,
  ⟨(some 4), none, .alloc (LV.agg [(LV.int .i64 0), (LV.int .i64 0), (LV.int .i64 0), (LV.bytes [0, 0, 0, 0, 0, 0, 0, 0, 0, 0, 0, 0, 0, 0, 0, 0]), (LV.bytes [0, 0, 0, 0, 0, 0, 0, 0, 0, 0, 0, 0, 0, 0, 0, 0]), LV.nils, (LV.bool false), (LV.int .u32 0), (LV.int .i64 0), (LV.bool false), (LV.int .i64 0), (LV.str [])])⟩,
  ⟨none, none, .store 42 true (.tmp 4) (.tmp 13)⟩] []) (.seq (.seq (.reg [
  ⟨(some 14), none, .mov (.tmp 0)⟩,
  ⟨(some 15), none, .len true (.tmp 14)⟩,
  ⟨(some 16), none, .bin .lss (.tmp 15) (.cst (LV.int .i64 40))⟩] []) (.cond (.tmp 16) (.seq (.reg [
  ⟨(some 17), none, .load 42 true (.tmp 4)⟩,
  ⟨none, none, .store 42 true (.tmp 2) (.tmp 17)⟩,
  ⟨(some 3), none, .mov (.cst (LV.int .i64 7))⟩] []) .ret) .skip)) (.seq (.seq (.reg [
  ⟨(some 18), none, .mov (.tmp 0)⟩,
  ⟨(some 19), none, .idxStr (.tmp 18) (.cst (LV.int .i64 0))⟩,
  ⟨(some 20), none, .bin .quo (.tmp 19) (.cst (LV.int .u8 16))⟩,
  ⟨(some 21), none, .bin .neq (.tmp 20) (.cst (LV.int .u8 6))⟩] []) (.cond (.tmp 21) (.seq (.reg [
  ⟨(some 22), none, .load 42 true (.tmp 4)⟩,
  ⟨none, none, .store 42 true (.tmp 2) (.tmp 22)⟩,
  ⟨(some 3), none, .mov (.cst (LV.int .i64 8))⟩] []) .ret) .skip)) (.seq (.reg [
  ⟨(some 23), none, .mov (.tmp 0)⟩,
  ⟨(some 24), none, .call id_interpreterref04_number [(.tmp 23), (.cst (LV.int .i64 4)), (.cst (LV.int .i64 2))]⟩,
  ⟨(some 5), none, .mov (.tmp 24)⟩] []) (.seq (.seq (.reg [
  ⟨(some 25), none, .mov (.tmp 0)⟩,
  ⟨(some 26), none, .len true (.tmp 25)⟩,
  ⟨(some 27), none, .mov (.tmp 5)⟩,
  ⟨(some 28), none, .bin .add (.cst (LV.int .i64 40)) (.tmp 27)⟩,
  ⟨(some 29), none, .bin .lss (.tmp 26) (.tmp 28)⟩] []) (.cond (.tmp 29) (.seq (.reg [
  ⟨(some 30), none, .load 42 true (.tmp 4)⟩,
  ⟨none, none, .store 42 true (.tmp 2) (.tmp 30)⟩,
  ⟨(some 3), none, .mov (.cst (LV.int .i64 7))⟩] []) .ret) .skip)) (.seq (.reg [
  ⟨(some 31), none, .mov (.tmp 0)⟩,
  ⟨(some 32), none, .call id_interpreterref04_number [(.tmp 31), (.cst (LV.int .i64 0)), (.cst (LV.int .i64 4))]⟩,
  ⟨(some 6), none, .mov (.tmp 32)⟩] []) (.seq (.reg [
  ⟨(some 33), none, .mov (.tmp 6)⟩,
  ⟨(some 34), none, .bin .quo (.tmp 33) (.cst (LV.int .i64 1048576))⟩,
  ⟨(some 35), none, .bin .rem (.tmp 34) (.cst (LV.int .i64 256))⟩,
  ⟨(some 36), none, .mov (.tmp 6)⟩,
  ⟨(some 37), none, .bin .rem (.tmp 36) (.cst (LV.int .i64 1048576))⟩,
  ⟨(some 38), none, .mov (.tmp 0)⟩,
  ⟨(some 39), none, .idxStr (.tmp 38) (.cst (LV.int .i64 7))⟩,
  ⟨(some 40), none, .conv .i64 (.tmp 39)⟩,
  ⟨(some 41), none, .build (LV.agg [(LV.int .i64 0), (LV.int .i64 0), (LV.int .i64 0), (LV.bytes [0, 0, 0, 0, 0, 0, 0, 0, 0, 0, 0, 0, 0, 0, 0, 0]), (LV.bytes [0, 0, 0, 0, 0, 0, 0, 0, 0, 0, 0, 0, 0, 0, 0, 0]), LV.nils, (LV.bool false), (LV.int .u32 0), (LV.int .i64 0), (LV.bool false), (LV.int .i64 0), (LV.str [])]) [(0, (.tmp 35)), (1, (.tmp 37)), (2, (.tmp 40))]⟩,
  ⟨(some 7), none, .alloc (LV.agg [(LV.int .i64 0), (LV.int .i64 0), (LV.int .i64 0), (LV.bytes [0, 0, 0, 0, 0, 0, 0, 0, 0, 0, 0, 0, 0, 0, 0, 0]), (LV.bytes [0, 0, 0, 0, 0, 0, 0, 0, 0, 0, 0, 0, 0, 0, 0, 0]), LV.nils, (LV.bool false), (LV.int .u32 0), (LV.int .i64 0), (LV.bool false), (LV.int .i64 0), (LV.str [])])⟩,
  ⟨none, none, .store 42 true (.tmp 7) (.tmp 41)⟩] []) (.seq (.seq (.reg [
  ⟨(some 8), none, .mov (.cst (LV.int .i64 0))⟩] []) (.block 0 (.loop [8] [42, 43, 46, 47, 48, 49, 50, 51, 52, 53, 54, 55, 56, 57, 58, 59, 44, 45] (.seq (.seq (.reg [
  ⟨(some 42), none, .mov (.tmp 8)⟩,
  ⟨(some 43), none, .bin .lss (.tmp 42) (.cst (LV.int .i64 16))⟩] []) (.cond (.tmp 43) .skip (.exit 0))) (.seq (.block 1 (.seq (.reg [
  ⟨(some 46), none, .mov (.tmp 8)⟩,
  ⟨(some 47), none, .mov (.tmp 0)⟩,
  ⟨(some 48), none, .mov (.tmp 8)⟩,
  ⟨(some 49), none, .bin .add (.cst (LV.int .i64 8)) (.tmp 48)⟩,
  ⟨(some 50), none, .idxStr (.tmp 47) (.tmp 49)⟩,
  ⟨(some 51), none, .fieldAddr 3 3 (.tmp 7)⟩,
  ⟨(some 52), none, .idxAddr (some 16) 1 (.tmp 51) (.tmp 46)⟩,
  ⟨none, none, .store 1 false (.tmp 52) (.tmp 50)⟩] []) (.reg [
  ⟨(some 53), none, .mov (.tmp 8)⟩,
  ⟨(some 54), none, .mov (.tmp 0)⟩,
  ⟨(some 55), none, .mov (.tmp 8)⟩,
  ⟨(some 56), none, .bin .add (.cst (LV.int .i64 24)) (.tmp 55)⟩,
  ⟨(some 57), none, .idxStr (.tmp 54) (.tmp 56)⟩,
  ⟨(some 58), none, .fieldAddr 4 19 (.tmp 7)⟩,
  ⟨(some 59), none, .idxAddr (some 16) 1 (.tmp 58) (.tmp 53)⟩,
  ⟨none, none, .store 1 false (.tmp 59) (.tmp 57)⟩] []))) (.reg [
  ⟨(some 44), none, .mov (.tmp 8)⟩,
  ⟨(some 45), none, .bin .add (.tmp 44) (.cst (LV.int .i64 1))⟩,
  ⟨(some 8), none, .mov (.tmp 45)⟩] [])))))) (.seq (.reg [
  ⟨(some 61), none, .mov (.tmp 0)⟩,
  ⟨(some 62), none, .idxStr (.tmp 61) (.cst (LV.int .i64 6))⟩,
  ⟨(some 63), none, .conv .i64 (.tmp 62)⟩,
  ⟨(some 64), none, .mov (.tmp 0)⟩,
  ⟨(some 65), none, .mov (.tmp 5)⟩,
  ⟨(some 66), none, .bin .add (.cst (LV.int .i64 40)) (.tmp 65)⟩,
  ⟨(some 67), none, .slc 0 (.tmp 64) (some (.cst (LV.int .i64 40))) (some (.tmp 66))⟩,
  ⟨(some 68), none, .call id_interpreterref04_Chain [(.tmp 63), (.tmp 67)]⟩,
  ⟨(some 60), none, .mov (.tmp 68)⟩,
  ⟨(some 69), none, .extract (.tmp 60) 0⟩,
  ⟨(some 70), none, .extract (.tmp 60) 1⟩,
  ⟨(some 71), none, .extract (.tmp 60) 2⟩,
  ⟨(some 72), none, .extract (.tmp 60) 3⟩,
  ⟨(some 9), none, .mov (.tmp 69)⟩,
  ⟨(some 10), none, .mov (.tmp 70)⟩,
  ⟨(some 11), none, .mov (.tmp 71)⟩,
  ⟨(some 12), none, .mov (.tmp 72)⟩] []) (.seq (.seq (.reg [
  ⟨(some 73), none, .mov (.tmp 12)⟩,
  ⟨(some 74), none, .bin .neq (.tmp 73) (.cst (LV.int .i64 0))⟩] []) (.cond (.tmp 74) (.seq (.reg [
  ⟨(some 75), none, .load 42 true (.tmp 4)⟩,
  ⟨(some 76), none, .mov (.tmp 12)⟩,
  ⟨none, none, .store 42 true (.tmp 2) (.tmp 75)⟩,
  ⟨(some 3), none, .mov (.tmp 76)⟩] []) .ret) .skip)) (.seq (.reg [
  ⟨(some 77), none, .mov (.tmp 9)⟩,
  ⟨(some 78), none, .fieldAddr 5 35 (.tmp 7)⟩,
  ⟨none, none, .store 1 false (.tmp 78) (.tmp 77)⟩] []) (.seq (.reg [
  ⟨(some 79), none, .mov (.tmp 10)⟩,
  ⟨(some 80), none, .fieldAddr 10 40 (.tmp 7)⟩,
  ⟨none, none, .store 1 false (.tmp 80) (.tmp 79)⟩] []) (.seq (.reg [
  ⟨(some 81), none, .mov (.tmp 11)⟩,
  ⟨(some 82), none, .fieldAddr 11 41 (.tmp 7)⟩,
  ⟨none, none, .store 1 false (.tmp 82) (.tmp 81)⟩] []) (.seq (.seq (.reg [
  ⟨(some 83), none, .mov (.tmp 10)⟩,
  ⟨(some 84), none, .bin .neq (.tmp 83) (.cst (LV.int .i64 44))⟩] []) (.cond (.tmp 84) (.seq (.reg [
  ⟨(some 85), none, .load 42 true (.tmp 7)⟩,
  ⟨none, none, .store 42 true (.tmp 2) (.tmp 85)⟩,
  ⟨(some 3), none, .mov (.cst (LV.int .i64 0))⟩] []) .ret) .skip)) (.seq (.seq (.reg [
  ⟨(some 86), none, .mov (.tmp 11)⟩,
  ⟨(some 87), none, .len true (.tmp 86)⟩,
  ⟨(some 88), none, .bin .lss (.tmp 87) (.cst (LV.int .i64 8))⟩] []) (.cond (.tmp 88) (.seq (.reg [
  ⟨(some 89), none, .load 42 true (.tmp 4)⟩,
  ⟨none, none, .store 42 true (.tmp 2) (.tmp 89)⟩,
  ⟨(some 3), none, .mov (.cst (LV.int .i64 7))⟩] []) .ret) .skip)) (.seq (.reg [
  ⟨(some 90), none, .fieldAddr 6 36 (.tmp 7)⟩,
  ⟨none, none, .store 1 false (.tmp 90) (.cst (LV.bool true))⟩] []) (.seq (.reg [
  ⟨(some 91), none, .mov (.tmp 11)⟩,
  ⟨(some 92), none, .idxStr (.tmp 91) (.cst (LV.int .i64 0))⟩,
  ⟨(some 93), none, .conv .i64 (.tmp 92)⟩,
  ⟨(some 94), none, .fieldAddr 10 40 (.tmp 7)⟩,
  ⟨none, none, .store 1 false (.tmp 94) (.tmp 93)⟩] []) (.seq (.reg [
  ⟨(some 95), none, .mov (.tmp 11)⟩,
  ⟨(some 96), none, .call id_interpreterref04_number [(.tmp 95), (.cst (LV.int .i64 2)), (.cst (LV.int .i64 2))]⟩,
  ⟨(some 97), none, .bin .quo (.tmp 96) (.cst (LV.int .i64 8))⟩,
  ⟨(some 98), none, .bin .mul (.tmp 97) (.cst (LV.int .i64 8))⟩,
  ⟨(some 99), none, .fieldAddr 8 38 (.tmp 7)⟩,
  ⟨none, none, .store 1 false (.tmp 99) (.tmp 98)⟩] []) (.seq (.reg [
  ⟨(some 100), none, .mov (.tmp 11)⟩,
  ⟨(some 101), none, .idxStr (.tmp 100) (.cst (LV.int .i64 3))⟩,
  ⟨(some 102), none, .bin .rem (.tmp 101) (.cst (LV.int .u8 2))⟩,
  ⟨(some 103), none, .bin .eql (.tmp 102) (.cst (LV.int .u8 1))⟩,
  ⟨(some 104), none, .fieldAddr 9 39 (.tmp 7)⟩,
  ⟨none, none, .store 1 false (.tmp 104) (.tmp 103)⟩] []) (.seq (.reg [
  ⟨(some 105), none, .mov (.tmp 11)⟩,
  ⟨(some 106), none, .call id_interpreterref04_number [(.tmp 105), (.cst (LV.int .i64 4)), (.cst (LV.int .i64 4))]⟩,
  ⟨(some 107), none, .conv .u32 (.tmp 106)⟩,
  ⟨(some 108), none, .fieldAddr 7 37 (.tmp 7)⟩,
  ⟨none, none, .store 1 false (.tmp 108) (.tmp 107)⟩] []) (.seq (.reg [
  ⟨(some 109), none, .mov (.tmp 11)⟩,
  ⟨(some 110), none, .slc 0 (.tmp 109) (some (.cst (LV.int .i64 8))) none⟩,
  ⟨(some 111), none, .fieldAddr 11 41 (.tmp 7)⟩,
  ⟨none, none, .store 1 false (.tmp 111) (.tmp 110)⟩] []) (.seq (.seq (.reg [
  ⟨(some 112), none, .fieldAddr 9 39 (.tmp 7)⟩,
  ⟨(some 113), none, .load 1 false (.tmp 112)⟩,
  ⟨(some 114), none, .mov (.tmp 113)⟩,
  ⟨(some 115), (some (114, true)), .fieldAddr 11 41 (.tmp 7)⟩,
  ⟨(some 116), (some (114, true)), .load 1 false (.tmp 115)⟩,
  ⟨(some 117), (some (114, true)), .len true (.tmp 116)⟩,
  ⟨(some 118), (some (114, true)), .bin .eql (.tmp 117) (.cst (LV.int .i64 0))⟩,
  ⟨(some 119), (some (114, true)), .mov (.tmp 118)⟩,
  ⟨(some 120), (some (119, false)), .fieldAddr 11 41 (.tmp 7)⟩,
  ⟨(some 121), (some (119, false)), .load 1 false (.tmp 120)⟩,
  ⟨(some 122), (some (119, false)), .len true (.tmp 121)⟩,
  ⟨(some 123), (some (119, false)), .bin .rem (.tmp 122) (.cst (LV.int .i64 8))⟩,
  ⟨(some 124), (some (119, false)), .bin .neq (.tmp 123) (.cst (LV.int .i64 0))⟩,
  ⟨(some 125), (some (114, true)), .pick (.tmp 119) (.cst (LV.bool true)) (.tmp 124)⟩,
  ⟨(some 126), none, .pick (.tmp 114) (.tmp 125) (.cst (LV.bool false))⟩,
  ⟨(some 127), none, .mov (.tmp 126)⟩,
  ⟨(some 128), (some (127, false)), .fieldAddr 8 38 (.tmp 7)⟩,
  ⟨(some 129), (some (127, false)), .load 1 false (.tmp 128)⟩,
  ⟨(some 130), (some (127, false)), .fieldAddr 11 41 (.tmp 7)⟩,
  ⟨(some 131), (some (127, false)), .load 1 false (.tmp 130)⟩,
  ⟨(some 132), (some (127, false)), .len true (.tmp 131)⟩,
  ⟨(some 133), (some (127, false)), .bin .add (.tmp 129) (.tmp 132)⟩,
  ⟨(some 134), (some (127, false)), .bin .gtr (.tmp 133) (.cst (LV.int .i64 65535))⟩,
  ⟨(some 135), none, .pick (.tmp 127) (.cst (LV.bool true)) (.tmp 134)⟩] []) (.cond (.tmp 135) (.seq (.reg [
  ⟨(some 136), none, .load 42 true (.tmp 4)⟩,
  ⟨none, none, .store 42 true (.tmp 2) (.tmp 136)⟩,
  ⟨(some 3), none, .mov (.cst (LV.int .i64 8))⟩] []) .ret) .skip)) (.seq (.reg [
  ⟨(some 137), none, .load 42 true (.tmp 7)⟩,
  ⟨none, none, .store 42 true (.tmp 2) (.tmp 137)⟩,
  ⟨(some 3), none, .mov (.cst (LV.int .i64 0))⟩] []) .ret)))))))))))))))))))))))), [.cell 2 42 true, .tmp 3]⟩
/-- interpreter/interpreterref04.Same -/
def c_interpreterref04_Same : MFn := ⟨2, 106, (.seq (.reg [
  ⟨(some 2), none, .box (.tmp 0)⟩,
  ⟨(some 3), none, .box (.tmp 1)⟩,
  ⟨(some 4), none, .mov (.cst (LV.bool false))⟩] []) (.seq (.seq (.reg [
  ⟨(some 6), none, .fieldAddr 5 35 (.tmp 2)⟩,
  ⟨(some 7), none, .load 1 false (.tmp 6)⟩,
  ⟨(some 8), none, .len false (.tmp 7)⟩,
  ⟨(some 9), none, .fieldAddr 5 35 (.tmp 3)⟩,
  ⟨(some 10), none, .load 1 false (.tmp 9)⟩,
  ⟨(some 11), none, .len false (.tmp 10)⟩,
  ⟨(some 12), none, .bin .neq (.tmp 8) (.tmp 11)⟩] []) (.cond (.tmp 12) (.seq (.reg [
  ⟨(some 4), none, .mov (.cst (LV.bool false))⟩] []) .ret) .skip)) (.seq (.seq (.reg [
  ⟨(some 5), none, .mov (.cst (LV.int .i64 0))⟩] []) (.block 0 (.loop [4, 5] [13, 14, 15, 16, 17, 20, 21, 22, 23, 24, 25, 26, 27, 28, 29, 30, 18, 19] (.seq (.seq (.reg [
  ⟨(some 13), none, .mov (.tmp 5)⟩,
  ⟨(some 14), none, .fieldAddr 5 35 (.tmp 2)⟩,
  ⟨(some 15), none, .load 1 false (.tmp 14)⟩,
  ⟨(some 16), none, .len false (.tmp 15)⟩,
  ⟨(some 17), none, .bin .lss (.tmp 13) (.tmp 16)⟩] []) (.cond (.tmp 17) .skip (.exit 0))) (.seq (.block 1 (.seq (.reg [
  ⟨(some 20), none, .fieldAddr 5 35 (.tmp 2)⟩,
  ⟨(some 21), none, .load 1 false (.tmp 20)⟩,
  ⟨(some 22), none, .mov (.tmp 5)⟩,
  ⟨(some 23), none, .idxAddr none 2 (.tmp 21) (.tmp 22)⟩,
  ⟨(some 24), none, .load 2 true (.tmp 23)⟩,
  ⟨(some 25), none, .fieldAddr 5 35 (.tmp 3)⟩,
  ⟨(some 26), none, .load 1 false (.tmp 25)⟩,
  ⟨(some 27), none, .mov (.tmp 5)⟩,
  ⟨(some 28), none, .idxAddr none 2 (.tmp 26) (.tmp 27)⟩,
  ⟨(some 29), none, .load 2 true (.tmp 28)⟩,
  ⟨(some 30), none, .eqS (Sh.agg [(Sh.int .i64), Sh.str]) true (.tmp 24) (.tmp 29)⟩] []) (.cond (.tmp 30) (.seq (.reg [
  ⟨(some 4), none, .mov (.cst (LV.bool false))⟩] []) .ret) .skip))) (.reg [
  ⟨(some 18), none, .mov (.tmp 5)⟩,
  ⟨(some 19), none, .bin .add (.tmp 18) (.cst (LV.int .i64 1))⟩,
  ⟨(some 5), none, .mov (.tmp 19)⟩] [])))))) (.seq (.reg [
  ⟨(some 31), none, .fieldAddr 0 0 (.tmp 2)⟩,
  ⟨(some 32), none, .load 1 false (.tmp 31)⟩,
  ⟨(some 33), none, .fieldAddr 0 0 (.tmp 3)⟩,
  ⟨(some 34), none, .load 1 false (.tmp 33)⟩,
  ⟨(some 35), none, .bin .eql (.tmp 32) (.tmp 34)⟩,
  ⟨(some 36), none, .mov (.tmp 35)⟩,
  ⟨(some 37), (some (36, true)), .fieldAddr 1 1 (.tmp 2)⟩,
  ⟨(some 38), (some (36, true)), .load 1 false (.tmp 37)⟩,
  ⟨(some 39), (some (36, true)), .fieldAddr 1 1 (.tmp 3)⟩,
  ⟨(some 40), (some (36, true)), .load 1 false (.tmp 39)⟩,
  ⟨(some 41), (some (36, true)), .bin .eql (.tmp 38) (.tmp 40)⟩,
  ⟨(some 42), none, .pick (.tmp 36) (.tmp 41) (.cst (LV.bool false))⟩,
  ⟨(some 43), none, .mov (.tmp 42)⟩,
  ⟨(some 44), (some (43, true)), .fieldAddr 2 2 (.tmp 2)⟩,
  ⟨(some 45), (some (43, true)), .load 1 false (.tmp 44)⟩,
  ⟨(some 46), (some (43, true)), .fieldAddr 2 2 (.tmp 3)⟩,
  ⟨(some 47), (some (43, true)), .load 1 false (.tmp 46)⟩,
  ⟨(some 48), (some (43, true)), .bin .eql (.tmp 45) (.tmp 47)⟩,
  ⟨(some 49), none, .pick (.tmp 43) (.tmp 48) (.cst (LV.bool false))⟩,
  ⟨(some 50), none, .mov (.tmp 49)⟩,
  ⟨(some 51), (some (50, true)), .fieldAddr 3 3 (.tmp 2)⟩,
  ⟨(some 52), (some (50, true)), .load 16 true (.tmp 51)⟩,
  ⟨(some 53), (some (50, true)), .fieldAddr 3 3 (.tmp 3)⟩,
  ⟨(some 54), (some (50, true)), .load 16 true (.tmp 53)⟩,
  ⟨(some 55), (some (50, true)), .eqS (Sh.bytes 16) false (.tmp 52) (.tmp 54)⟩,
  ⟨(some 56), none, .pick (.tmp 50) (.tmp 55) (.cst (LV.bool false))⟩,
  ⟨(some 57), none, .mov (.tmp 56)⟩,
  ⟨(some 58), (some (57, true)), .fieldAddr 4 19 (.tmp 2)⟩,
  ⟨(some 59), (some (57, true)), .load 16 true (.tmp 58)⟩,
  ⟨(some 60), (some (57, true)), .fieldAddr 4 19 (.tmp 3)⟩,
  ⟨(some 61), (some (57, true)), .load 16 true (.tmp 60)⟩,
  ⟨(some 62), (some (57, true)), .eqS (Sh.bytes 16) false (.tmp 59) (.tmp 61)⟩,
  ⟨(some 63), none, .pick (.tmp 57) (.tmp 62) (.cst (LV.bool false))⟩,
  ⟨(some 64), none, .mov (.tmp 63)⟩,
  ⟨(some 65), (some (64, true)), .fieldAddr 6 36 (.tmp 2)⟩,
  ⟨(some 66), (some (64, true)), .load 1 false (.tmp 65)⟩,
  ⟨(some 67), (some (64, true)), .fieldAddr 6 36 (.tmp 3)⟩,
  ⟨(some 68), (some (64, true)), .load 1 false (.tmp 67)⟩,
  ⟨(some 69), (some (64, true)), .eqB false (.tmp 66) (.tmp 68)⟩,
  ⟨(some 70), none, .pick (.tmp 64) (.tmp 69) (.cst (LV.bool false))⟩,
  ⟨(some 71), none, .mov (.tmp 70)⟩,
  ⟨(some 72), (some (71, true)), .fieldAddr 7 37 (.tmp 2)⟩,
  ⟨(some 73), (some (71, true)), .load 1 false (.tmp 72)⟩,
  ⟨(some 74), (some (71, true)), .fieldAddr 7 37 (.tmp 3)⟩,
  ⟨(some 75), (some (71, true)), .load 1 false (.tmp 74)⟩,
  ⟨(some 76), (some (71, true)), .bin .eql (.tmp 73) (.tmp 75)⟩,
  ⟨(some 77), none, .pick (.tmp 71) (.tmp 76) (.cst (LV.bool false))⟩,
  ⟨(some 78), none, .mov (.tmp 77)⟩,
  ⟨(some 79), (some (78, true)), .fieldAddr 8 38 (.tmp 2)⟩,
  ⟨(some 80), (some (78, true)), .load 1 false (.tmp 79)⟩,
  ⟨(some 81), (some (78, true)), .fieldAddr 8 38 (.tmp 3)⟩,
  ⟨(some 82), (some (78, true)), .load 1 false (.tmp 81)⟩,
  ⟨(some 83), (some (78, true)), .bin .eql (.tmp 80) (.tmp 82)⟩,
  ⟨(some 84), none, .pick (.tmp 78) (.tmp 83) (.cst (LV.bool false))⟩,
  ⟨(some 85), none, .mov (.tmp 84)⟩,
  ⟨(some 86), (some (85, true)), .fieldAddr 9 39 (.tmp 2)⟩,
  ⟨(some 87), (some (85, true)), .load 1 false (.tmp 86)⟩,
  ⟨(some 88), (some (85, true)), .fieldAddr 9 39 (.tmp 3)⟩,
  ⟨(some 89), (some (85, true)), .load 1 false (.tmp 88)⟩,
  ⟨(some 90), (some (85, true)), .eqB false (.tmp 87) (.tmp 89)⟩,
  ⟨(some 91), none, .pick (.tmp 85) (.tmp 90) (.cst (LV.bool false))⟩,
  ⟨(some 92), none, .mov (.tmp 91)⟩,
  ⟨(some 93), (some (92, true)), .fieldAddr 10 40 (.tmp 2)⟩,
  ⟨(some 94), (some (92, true)), .load 1 false (.tmp 93)⟩,
  ⟨(some 95), (some (92, true)), .fieldAddr 10 40 (.tmp 3)⟩,
  ⟨(some 96), (some (92, true)), .load 1 false (.tmp 95)⟩,
  ⟨(some 97), (some (92, true)), .bin .eql (.tmp 94) (.tmp 96)⟩,
  ⟨(some 98), none, .pick (.tmp 92) (.tmp 97) (.cst (LV.bool false))⟩,
  ⟨(some 99), none, .mov (.tmp 98)⟩,
  ⟨(some 100), (some (99, true)), .fieldAddr 11 41 (.tmp 2)⟩,
  ⟨(some 101), (some (99, true)), .load 1 false (.tmp 100)⟩,
  ⟨(some 102), (some (99, true)), .fieldAddr 11 41 (.tmp 3)⟩,
  ⟨(some 103), (some (99, true)), .load 1 false (.tmp 102)⟩,
  ⟨(some 104), (some (99, true)), .bin .eql (.tmp 101) (.tmp 103)⟩,
  ⟨(some 105), none, .pick (.tmp 99) (.tmp 104) (.cst (LV.bool false))⟩,
  ⟨(some 4), none, .mov (.tmp 105)⟩] []) .ret)))), [.tmp 4]⟩
/-- interpreter/interpreterlaw04.same -/
def c_interpreterlaw04_same : MFn := ⟨2, 36, (.seq (.reg [
  ⟨(some 4), none, .mov (.cst (LV.bool false))⟩] []) (.seq (.seq (.reg [
  ⟨(some 7), none, .mov (.tmp 1)⟩,
  ⟨(some 8), none, .bin .eql (.tmp 7) (.cst (LV.int .i64 0))⟩] []) (.cond (.tmp 8) (.seq (.reg [
  ⟨(some 9), none, .mov (.tmp 0)⟩,
  ⟨(some 10), none, .eqNil 1 false (.tmp 9)⟩,
  ⟨(some 4), none, .mov (.tmp 10)⟩] []) .ret) .skip)) (.seq (.reg [
  ⟨(some 12), none, .mov (.tmp 0)⟩,
  ⟨(some 13), none, .assert ty_ptr_num_Fault true LV.nilp (.tmp 12)⟩,
  ⟨(some 11), none, .mov (.tmp 13)⟩,
  ⟨(some 14), none, .extract (.tmp 11) 0⟩,
  ⟨(some 15), none, .extract (.tmp 11) 1⟩,
  ⟨(some 5), none, .mov (.tmp 14)⟩,
  ⟨(some 6), none, .mov (.tmp 15)⟩] []) (.seq (.reg [
  ⟨(some 16), none, .mov (.tmp 6)⟩,
  ⟨(some 17), none, .mov (.tmp 16)⟩,
  ⟨(some 18), (some (17, true)), .mov (.tmp 5)⟩,
  ⟨(some 19), (some (17, true)), .eqNil 0 true (.tmp 18)⟩,
  ⟨(some 20), none, .pick (.tmp 17) (.tmp 19) (.cst (LV.bool false))⟩,
  ⟨(some 21), none, .mov (.tmp 20)⟩,
  ⟨(some 22), (some (21, true)), .mov (.tmp 5)⟩,
  ⟨(some 23), (some (21, true)), .nilCheck (.tmp 22)⟩,
  ⟨(some 24), (some (21, true)), .fieldAddr 0 0 (.tmp 23)⟩,
  ⟨(some 25), (some (21, true)), .load 1 false (.tmp 24)⟩,
  ⟨(some 26), (some (21, true)), .mov (.tmp 1)⟩,
  ⟨(some 27), (some (21, true)), .bin .eql (.tmp 25) (.tmp 26)⟩,
  ⟨(some 28), none, .pick (.tmp 21) (.tmp 27) (.cst (LV.bool false))⟩,
  ⟨(some 29), none, .mov (.tmp 28)⟩,
  ⟨(some 30), (some (29, true)), .mov (.tmp 5)⟩,
  ⟨(some 31), (some (29, true)), .nilCheck (.tmp 30)⟩,
  ⟨(some 32), (some (29, true)), .fieldAddr 1 1 (.tmp 31)⟩,
  ⟨(some 33), (some (29, true)), .load 1 false (.tmp 32)⟩,
  ⟨(some 34), (some (29, true)), .bin .eql (.tmp 33) (.cst (LV.int .i64 0))⟩,
  ⟨(some 35), none, .pick (.tmp 29) (.tmp 34) (.cst (LV.bool false))⟩,
  ⟨(some 4), none, .mov (.tmp 35)⟩] []) .ret)))), [.tmp 4]⟩
/-- interpreter/ip6.Chain -/
def c_ip6_Chain : MFn := ⟨2, 59, (.seq (.reg [
  ⟨(some 4), none, .mov (.cst LV.nils)⟩,
  ⟨(some 5), none, .mov (.cst (LV.int .i64 0))⟩,
  ⟨(some 6), none, .mov (.cst (LV.str []))⟩,
  ⟨(some 7), none, .mov (.cst LV.nili)⟩] []) (.seq (.block 0 (.loop [4, 5, 6, 7, 0, 1] [10, 11, 8, 9, 12, 13, 14, 15, 16, 17, 18, 19, 20, 22, 23, 24, 25, 26, 27, 28, 21, 30, 31, 32, 29, 34, 35, 36, 37, 33, 38, 39, 40, 41, 42, 43, 44, 45, 46, 47, 48, 49, 50, 51, 52, 53, 54, 55] (.seq (.seq (.reg [
  ⟨(some 10), none, .mov (.tmp 0)⟩,
  ⟨(some 11), none, .call id_ip6_extends [(.tmp 10)]⟩] []) (.cond (.tmp 11) .skip (.exit 0))) (.block 1 (.seq (.reg [
  ⟨(some 8), none, .mov (.cst (LV.int .i64 0))⟩] []) (.seq (.reg [
  ⟨(some 9), none, .mov (.cst (LV.int .i64 8))⟩] []) (.seq (.seq (.reg [
  ⟨(some 12), none, .mov (.tmp 1)⟩,
  ⟨(some 13), none, .len true (.tmp 12)⟩,
  ⟨(some 14), none, .bin .geq (.tmp 13) (.cst (LV.int .i64 2))⟩] []) (.cond (.tmp 14) (.reg [
  ⟨(some 15), none, .mov (.tmp 9)⟩,
  ⟨(some 16), none, .mov (.tmp 1)⟩,
  ⟨(some 17), none, .idxStr (.tmp 16) (.cst (LV.int .i64 1))⟩,
  ⟨(some 18), none, .conv .i64 (.tmp 17)⟩,
  ⟨(some 19), none, .bin .mul (.tmp 18) (.cst (LV.int .i64 8))⟩,
  ⟨(some 20), none, .bin .add (.tmp 15) (.tmp 19)⟩,
  ⟨(some 9), none, .mov (.tmp 20)⟩] []) .skip)) (.seq (.block 2 (.seq (.reg [
  ⟨(some 22), none, .mov (.tmp 0)⟩,
  ⟨(some 23), none, .bin .eql (.tmp 22) (.cst (LV.int .i64 0))⟩,
  ⟨(some 24), none, .mov (.tmp 23)⟩,
  ⟨(some 25), (some (24, true)), .mov (.tmp 4)⟩,
  ⟨(some 26), (some (24, true)), .len false (.tmp 25)⟩,
  ⟨(some 27), (some (24, true)), .bin .gtr (.tmp 26) (.cst (LV.int .i64 0))⟩,
  ⟨(some 28), none, .pick (.tmp 24) (.tmp 27) (.cst (LV.bool false))⟩,
  ⟨(some 21), none, .mov (.tmp 28)⟩] []) (.cond (.tmp 21) (.reg [
  ⟨(some 8), none, .mov (.cst (LV.int .i64 8))⟩] []) (.seq (.reg [
  ⟨(some 30), none, .mov (.tmp 4)⟩,
  ⟨(some 31), none, .len false (.tmp 30)⟩,
  ⟨(some 32), none, .bin .geq (.tmp 31) (.cst (LV.int .i64 8))⟩,
  ⟨(some 29), none, .mov (.tmp 32)⟩] []) (.cond (.tmp 29) (.reg [
  ⟨(some 8), none, .mov (.cst (LV.int .i64 3))⟩] []) (.seq (.reg [
  ⟨(some 34), none, .mov (.tmp 1)⟩,
  ⟨(some 35), none, .len true (.tmp 34)⟩,
  ⟨(some 36), none, .mov (.tmp 9)⟩,
  ⟨(some 37), none, .bin .lss (.tmp 35) (.tmp 36)⟩,
  ⟨(some 33), none, .mov (.tmp 37)⟩] []) (.cond (.tmp 33) (.reg [
  ⟨(some 8), none, .mov (.cst (LV.int .i64 7))⟩] []) .skip))))))) (.seq (.seq (.reg [
  ⟨(some 38), none, .mov (.tmp 8)⟩,
  ⟨(some 39), none, .bin .neq (.tmp 38) (.cst (LV.int .i64 0))⟩] []) (.cond (.tmp 39) (.seq (.reg [
  ⟨(some 40), none, .mov (.tmp 8)⟩,
  ⟨(some 41), none, .call id_ip6_fault [(.tmp 40)]⟩,
  ⟨(some 4), none, .mov (.cst LV.nils)⟩,
  ⟨(some 5), none, .mov (.cst (LV.int .i64 0))⟩,
  ⟨(some 6), none, .mov (.cst (LV.str []))⟩,
  ⟨(some 7), none, .mov (.tmp 41)⟩] []) .ret) .skip)) (.seq (.reg [
  ⟨(some 42), none, .mov (.tmp 4)⟩,
  ⟨(some 43), none, .mov (.tmp 0)⟩,
  ⟨(some 44), none, .mov (.tmp 1)⟩,
  ⟨(some 45), none, .mov (.tmp 9)⟩,
  ⟨(some 46), none, .slc 0 (.tmp 44) (some (.cst (LV.int .i64 2))) (some (.tmp 45))⟩,
  ⟨(some 47), none, .build (LV.agg [(LV.int .i64 0), (LV.str [])]) [(0, (.tmp 43)), (1, (.tmp 46))]⟩,
  ⟨(some 48), none, .bsl (LV.agg [(LV.int .i64 0), (LV.str [])]) 1 [(0, (.tmp 47))]⟩,
  ⟨(some 49), none, .append 2 24 (.tmp 42) (.tmp 48)⟩,
  ⟨(some 4), none, .mov (.tmp 49)⟩] []) (.reg [
  ⟨(some 50), none, .mov (.tmp 1)⟩,
  ⟨(some 51), none, .idxStr (.tmp 50) (.cst (LV.int .i64 0))⟩,
  ⟨(some 52), none, .conv .i64 (.tmp 51)⟩,
  ⟨(some 53), none, .mov (.tmp 1)⟩,
  ⟨(some 54), none, .mov (.tmp 9)⟩,
  ⟨(some 55), none, .slc 0 (.tmp 53) (some (.tmp 54)) none⟩,
  ⟨(some 0), none, .mov (.tmp 52)⟩,
  ⟨(some 1), none, .mov (.tmp 55)⟩] []))))))))))) (.seq (.reg [
  ⟨(some 56), none, .mov (.tmp 4)⟩,
  ⟨(some 57), none, .mov (.tmp 0)⟩,
  ⟨(some 58), none, .mov (.tmp 1)⟩,
  ⟨(some 4), none, .mov (.tmp 56)⟩,
  ⟨(some 5), none, .mov (.tmp 57)⟩,
  ⟨(some 6), none, .mov (.tmp 58)⟩,
  ⟨(some 7), none, .mov (.cst LV.nili)⟩] []) .ret))), [.tmp 4, .tmp 5, .tmp 6, .tmp 7]⟩
/-- interpreter/interpreterref04.Chain -/
def c_interpreterref04_Chain : MFn := ⟨2, 65, (.seq (.reg [
  ⟨(some 4), none, .mov (.cst LV.nils)⟩,
  ⟨(some 5), none, .mov (.cst (LV.int .i64 0))⟩,
  ⟨(some 6), none, .mov (.cst (LV.str []))⟩,
  ⟨(some 7), none, .mov (.cst (LV.int .i64 0))⟩] []) (.seq (.reg [
  ⟨(some 8), none, .nilT 2⟩] []) (.seq (.block 0 (.loop [4, 5, 6, 7, 8, 0, 1] [10, 11, 12, 13, 14, 15, 16, 17, 18, 19, 20, 21, 22, 23, 24, 25, 26, 27, 28, 29, 30, 31, 32, 33, 34, 35, 36, 37, 38, 39, 40, 41, 42, 43, 44, 45, 46, 47, 9, 48, 49, 50, 51, 52, 53, 54, 55, 56, 57, 58, 59, 60, 61] (.seq (.seq (.reg [
  ⟨(some 10), none, .mov (.tmp 0)⟩,
  ⟨(some 11), none, .bin .eql (.tmp 10) (.cst (LV.int .i64 0))⟩,
  ⟨(some 12), none, .mov (.tmp 11)⟩,
  ⟨(some 13), (some (12, false)), .mov (.tmp 0)⟩,
  ⟨(some 14), (some (12, false)), .bin .eql (.tmp 13) (.cst (LV.int .i64 43))⟩,
  ⟨(some 15), none, .pick (.tmp 12) (.cst (LV.bool true)) (.tmp 14)⟩,
  ⟨(some 16), none, .mov (.tmp 15)⟩,
  ⟨(some 17), (some (16, false)), .mov (.tmp 0)⟩,
  ⟨(some 18), (some (16, false)), .bin .eql (.tmp 17) (.cst (LV.int .i64 60))⟩,
  ⟨(some 19), none, .pick (.tmp 16) (.cst (LV.bool true)) (.tmp 18)⟩] []) (.cond (.tmp 19) .skip (.exit 0))) (.block 1 (.seq (.seq (.reg [
  ⟨(some 20), none, .mov (.tmp 0)⟩,
  ⟨(some 21), none, .bin .eql (.tmp 20) (.cst (LV.int .i64 0))⟩,
  ⟨(some 22), none, .mov (.tmp 21)⟩,
  ⟨(some 23), (some (22, true)), .mov (.tmp 8)⟩,
  ⟨(some 24), (some (22, true)), .len false (.tmp 23)⟩,
  ⟨(some 25), (some (22, true)), .bin .gtr (.tmp 24) (.cst (LV.int .i64 0))⟩,
  ⟨(some 26), none, .pick (.tmp 22) (.tmp 25) (.cst (LV.bool false))⟩] []) (.cond (.tmp 26) (.seq (.reg [
  ⟨(some 4), none, .mov (.cst LV.nils)⟩,
  ⟨(some 5), none, .mov (.cst (LV.int .i64 0))⟩,
  ⟨(some 6), none, .mov (.cst (LV.str []))⟩,
  ⟨(some 7), none, .mov (.cst (LV.int .i64 8))⟩] []) .ret) .skip)) (.seq (.seq (.reg [
  ⟨(some 27), none, .mov (.tmp 8)⟩,
  ⟨(some 28), none, .len false (.tmp 27)⟩,
  ⟨(some 29), none, .bin .eql (.tmp 28) (.cst (LV.int .i64 8))⟩] []) (.cond (.tmp 29) (.seq (.reg [
  ⟨(some 4), none, .mov (.cst LV.nils)⟩,
  ⟨(some 5), none, .mov (.cst (LV.int .i64 0))⟩,
  ⟨(some 6), none, .mov (.cst (LV.str []))⟩,
  ⟨(some 7), none, .mov (.cst (LV.int .i64 3))⟩] []) .ret) .skip)) (.seq (.seq (.reg [
  ⟨(some 30), none, .mov (.tmp 1)⟩,
  ⟨(some 31), none, .len true (.tmp 30)⟩,
  ⟨(some 32), none, .bin .lss (.tmp 31) (.cst (LV.int .i64 8))⟩,
  ⟨(some 33), none, .mov (.tmp 32)⟩,
  ⟨(some 34), (some (33, false)), .mov (.tmp 1)⟩,
  ⟨(some 35), (some (33, false)), .len true (.tmp 34)⟩,
  ⟨(some 36), (some (33, false)), .mov (.tmp 1)⟩,
  ⟨(some 37), (some (33, false)), .idxStr (.tmp 36) (.cst (LV.int .i64 1))⟩,
  ⟨(some 38), (some (33, false)), .conv .i64 (.tmp 37)⟩,
  ⟨(some 39), (some (33, false)), .bin .add (.cst (LV.int .i64 1)) (.tmp 38)⟩,
  ⟨(some 40), (some (33, false)), .bin .mul (.cst (LV.int .i64 8)) (.tmp 39)⟩,
  ⟨(some 41), (some (33, false)), .bin .lss (.tmp 35) (.tmp 40)⟩,
  ⟨(some 42), none, .pick (.tmp 33) (.cst (LV.bool true)) (.tmp 41)⟩] []) (.cond (.tmp 42) (.seq (.reg [
  ⟨(some 4), none, .mov (.cst LV.nils)⟩,
  ⟨(some 5), none, .mov (.cst (LV.int .i64 0))⟩,
  ⟨(some 6), none, .mov (.cst (LV.str []))⟩,
  ⟨(some 7), none, .mov (.cst (LV.int .i64 7))⟩] []) .ret) .skip)) (.seq (.reg [
  ⟨(some 43), none, .mov (.tmp 1)⟩,
  ⟨(some 44), none, .idxStr (.tmp 43) (.cst (LV.int .i64 1))⟩,
  ⟨(some 45), none, .conv .i64 (.tmp 44)⟩,
  ⟨(some 46), none, .bin .add (.cst (LV.int .i64 1)) (.tmp 45)⟩,
  ⟨(some 47), none, .bin .mul (.cst (LV.int .i64 8)) (.tmp 46)⟩,
  ⟨(some 9), none, .mov (.tmp 47)⟩] []) (.seq (.reg [
  ⟨(some 48), none, .mov (.tmp 8)⟩,
  ⟨(some 49), none, .mov (.tmp 0)⟩,
  ⟨(some 50), none, .mov (.tmp 1)⟩,
  ⟨(some 51), none, .mov (.tmp 9)⟩,
  ⟨(some 52), none, .slc 0 (.tmp 50) (some (.cst (LV.int .i64 2))) (some (.tmp 51))⟩,
  ⟨(some 53), none, .build (LV.agg [(LV.int .i64 0), (LV.str [])]) [(0, (.tmp 49)), (1, (.tmp 52))]⟩,
  ⟨(some 54), none, .bsl (LV.agg [(LV.int .i64 0), (LV.str [])]) 1 [(0, (.tmp 53))]⟩,
  ⟨(some 55), none, .append 2 24 (.tmp 48) (.tmp 54)⟩,
  ⟨(some 8), none, .mov (.tmp 55)⟩] []) (.seq (.reg [
  ⟨(some 56), none, .mov (.tmp 1)⟩,
  ⟨(some 57), none, .idxStr (.tmp 56) (.cst (LV.int .i64 0))⟩,
  ⟨(some 58), none, .conv .i64 (.tmp 57)⟩,
  ⟨(some 0), none, .mov (.tmp 58)⟩] []) (.reg [
  ⟨(some 59), none, .mov (.tmp 1)⟩,
  ⟨(some 60), none, .mov (.tmp 9)⟩,
  ⟨(some 61), none, .slc 0 (.tmp 59) (some (.tmp 60)) none⟩,
  ⟨(some 1), none, .mov (.tmp 61)⟩] []))))))))))) (.seq (.reg [
  ⟨(some 62), none, .mov (.tmp 8)⟩,
  ⟨(some 63), none, .mov (.tmp 0)⟩,
  ⟨(some 64), none, .mov (.tmp 1)⟩,
  ⟨(some 4), none, .mov (.tmp 62)⟩,
  ⟨(some 5), none, .mov (.tmp 63)⟩,
  ⟨(some 6), none, .mov (.tmp 64)⟩,
  ⟨(some 7), none, .mov (.cst (LV.int .i64 0))⟩] []) .ret)))), [.tmp 4, .tmp 5, .tmp 6, .tmp 7]⟩
/-- interpreter/interpreterlaw04.Great -/
def c_interpreterlaw04_Great : MFn := ⟨1, 37, (.seq (.reg [
  ⟨(some 1), none, .box (.tmp 0)⟩,
  ⟨(some 2), none, .mov (.cst (LV.bool false))⟩] []) (.seq (.reg [
  ⟨(some 5), none, .fieldAddr 11 41 (.tmp 1)⟩,
  ⟨(some 6), none, .load 1 false (.tmp 5)⟩,
  ⟨(some 7), none, .len true (.tmp 6)⟩,
  ⟨(some 3), none, .mov (.tmp 7)⟩] []) (.seq (.seq (.reg [
  ⟨(some 4), none, .mov (.cst (LV.int .i64 0))⟩] []) (.block 0 (.loop [3, 4] [8, 9, 10, 11, 12, 13, 14, 15, 16, 19, 20, 21, 22, 23, 24, 25, 26, 27, 28, 17, 18] (.seq (.seq (.reg [
  ⟨(some 8), none, .mov (.tmp 4)⟩,
  ⟨(some 9), none, .fieldAddr 5 35 (.tmp 1)⟩,
  ⟨(some 10), none, .load 1 false (.tmp 9)⟩,
  ⟨(some 11), none, .len false (.tmp 10)⟩,
  ⟨(some 12), none, .bin .lss (.tmp 8) (.tmp 11)⟩,
  ⟨(some 13), none, .mov (.tmp 12)⟩,
  ⟨(some 14), (some (13, true)), .mov (.tmp 4)⟩,
  ⟨(some 15), (some (13, true)), .bin .leq (.tmp 14) (.cst (LV.int .i64 20))⟩,
  ⟨(some 16), none, .pick (.tmp 13) (.tmp 15) (.cst (LV.bool false))⟩] []) (.cond (.tmp 16) .skip (.exit 0))) (.seq (.block 1 (.reg [
  ⟨(some 19), none, .mov (.tmp 3)⟩,
  ⟨(some 20), none, .fieldAddr 5 35 (.tmp 1)⟩,
  ⟨(some 21), none, .load 1 false (.tmp 20)⟩,
  ⟨(some 22), none, .mov (.tmp 4)⟩,
  ⟨(some 23), none, .idxAddr none 2 (.tmp 21) (.tmp 22)⟩,
  ⟨(some 24), none, .fieldAddr 1 1 (.tmp 23)⟩,
  ⟨(some 25), none, .load 1 false (.tmp 24)⟩,
  ⟨(some 26), none, .len true (.tmp 25)⟩,
  ⟨(some 27), none, .minmax false (.tmp 26) [(.cst (LV.int .i64 70001))]⟩,
  ⟨(some 28), none, .bin .add (.tmp 19) (.tmp 27)⟩,
  ⟨(some 3), none, .mov (.tmp 28)⟩] [])) (.reg [
  ⟨(some 17), none, .mov (.tmp 4)⟩,
  ⟨(some 18), none, .bin .add (.tmp 17) (.cst (LV.int .i64 1))⟩,
  ⟨(some 4), none, .mov (.tmp 18)⟩] [])))))) (.seq (.reg [
  ⟨(some 29), none, .fieldAddr 5 35 (.tmp 1)⟩,
  ⟨(some 30), none, .load 1 false (.tmp 29)⟩,
  ⟨(some 31), none, .len false (.tmp 30)⟩,
  ⟨(some 32), none, .bin .gtr (.tmp 31) (.cst (LV.int .i64 20))⟩,
  ⟨(some 33), none, .mov (.tmp 32)⟩,
  ⟨(some 34), (some (33, false)), .mov (.tmp 3)⟩,
  ⟨(some 35), (some (33, false)), .bin .gtr (.tmp 34) (.cst (LV.int .i64 70000))⟩,
  ⟨(some 36), none, .pick (.tmp 33) (.cst (LV.bool true)) (.tmp 35)⟩,
  ⟨(some 2), none, .mov (.tmp 36)⟩] []) .ret)))), [.tmp 2]⟩
/-- interpreter/ip6.Bytes -/
def c_ip6_Bytes : MFn := ⟨1, 98, (.seq (.reg [
  ⟨(some 1), none, .box (.tmp 0)⟩,
  ⟨(some 2), none, .mov (.cst (LV.str []))⟩,
  ⟨(some 3), none, .mov (.cst LV.nili)⟩] []) (.seq (.seq (.reg [
  ⟨(some 10), none, .load 42 true (.tmp 1)⟩,
  ⟨(some 11), none, .call id_ip6_why [(.tmp 10)]⟩,
  ⟨(some 4), none, .mov (.tmp 11)⟩] []) (.seq (.reg [
  ⟨(some 12), none, .mov (.tmp 4)⟩,
  ⟨(some 13), none, .bin .neq (.tmp 12) (.cst (LV.int .i64 0))⟩] []) (.cond (.tmp 13) (.seq (.reg [
  ⟨(some 14), none, .mov (.tmp 4)⟩,
  ⟨(some 15), none, .call id_ip6_fault [(.tmp 14)]⟩,
  ⟨(some 2), none, .mov (.cst (LV.str []))⟩,
  ⟨(some 3), none, .mov (.tmp 15)⟩] []) .ret) .skip))) (.seq (.reg [
  ⟨(some 16), none, .fieldAddr 10 40 (.tmp 1)⟩,
  ⟨(some 17), none, .load 1 false (.tmp 16)⟩,
  ⟨(some 18), none, .fieldAddr 11 41 (.tmp 1)⟩,
  ⟨(some 19), none, .load 1 false (.tmp 18)⟩,
  ⟨(some 5), none, .mov (.tmp 17)⟩,
  ⟨(some 6), none, .mov (.tmp 19)⟩] []) (.seq (.seq (.reg [
  ⟨(some 20), none, .fieldAddr 6 36 (.tmp 1)⟩,
  ⟨(some 21), none, .load 1 false (.tmp 20)⟩] []) (.cond (.tmp 21) (.seq (.reg [
  ⟨(some 22), none, .fieldAddr 8 38 (.tmp 1)⟩,
  ⟨(some 23), none, .load 1 false (.tmp 22)⟩,
  ⟨(some 7), none, .mov (.tmp 23)⟩] []) (.seq (.seq (.reg [
  ⟨(some 24), none, .fieldAddr 9 39 (.tmp 1)⟩,
  ⟨(some 25), none, .load 1 false (.tmp 24)⟩] []) (.cond (.tmp 25) (.reg [
  ⟨(some 26), none, .mov (.tmp 7)⟩,
  ⟨(some 27), none, .bin .add (.tmp 26) (.cst (LV.int .i64 1))⟩,
  ⟨(some 7), none, .mov (.tmp 27)⟩] []) .skip)) (.seq (.reg [
  ⟨(some 28), none, .mov (.tmp 5)⟩,
  ⟨(some 29), none, .call id_ip6_big [(.tmp 28), (.cst (LV.int .i64 1))]⟩,
  ⟨(some 30), none, .bin .add (.tmp 29) (.cst (LV.str [0]))⟩,
  ⟨(some 31), none, .mov (.tmp 7)⟩,
  ⟨(some 32), none, .call id_ip6_big [(.tmp 31), (.cst (LV.int .i64 2))]⟩,
  ⟨(some 33), none, .bin .add (.tmp 30) (.tmp 32)⟩,
  ⟨(some 34), none, .fieldAddr 7 37 (.tmp 1)⟩,
  ⟨(some 35), none, .load 1 false (.tmp 34)⟩,
  ⟨(some 36), none, .conv .i64 (.tmp 35)⟩,
  ⟨(some 37), none, .call id_ip6_big [(.tmp 36), (.cst (LV.int .i64 4))]⟩,
  ⟨(some 38), none, .bin .add (.tmp 33) (.tmp 37)⟩,
  ⟨(some 39), none, .mov (.tmp 6)⟩,
  ⟨(some 40), none, .bin .add (.tmp 38) (.tmp 39)⟩,
  ⟨(some 6), none, .mov (.tmp 40)⟩] []) (.reg [
  ⟨(some 5), none, .mov (.cst (LV.int .i64 44))⟩] [])))) .skip)) (.seq (.seq (.reg [
  ⟨(some 41), none, .fieldAddr 5 35 (.tmp 1)⟩,
  ⟨(some 42), none, .load 1 false (.tmp 41)⟩,
  ⟨(some 43), none, .len false (.tmp 42)⟩,
  ⟨(some 44), none, .bin .sub (.tmp 43) (.cst (LV.int .i64 1))⟩,
  ⟨(some 8), none, .mov (.tmp 44)⟩] []) (.block 0 (.loop [6, 5, 8] [45, 46, 49, 50, 51, 52, 53, 9, 54, 55, 56, 57, 58, 59, 60, 61, 62, 63, 64, 65, 66, 67, 68, 47, 48] (.seq (.seq (.reg [
  ⟨(some 45), none, .mov (.tmp 8)⟩,
  ⟨(some 46), none, .bin .geq (.tmp 45) (.cst (LV.int .i64 0))⟩] []) (.cond (.tmp 46) .skip (.exit 0))) (.seq (.block 1 (.seq (.reg [
  ⟨(some 49), none, .fieldAddr 5 35 (.tmp 1)⟩,
  ⟨(some 50), none, .load 1 false (.tmp 49)⟩,
  ⟨(some 51), none, .mov (.tmp 8)⟩,
  ⟨(some 52), none, .idxAddr none 2 (.tmp 50) (.tmp 51)⟩,
  ⟨(some 53), none, .load 2 true (.tmp 52)⟩,
  ⟨(some 9), none, .alloc (LV.agg [(LV.int .i64 0), (LV.str [])])⟩,
  ⟨none, none, .store 2 true (.tmp 9) (.tmp 53)⟩] []) (.seq (.reg [
  ⟨(some 54), none, .mov (.tmp 5)⟩,
  ⟨(some 55), none, .call id_ip6_big [(.tmp 54), (.cst (LV.int .i64 1))]⟩,
  ⟨(some 56), none, .fieldAddr 1 1 (.tmp 9)⟩,
  ⟨(some 57), none, .load 1 false (.tmp 56)⟩,
  ⟨(some 58), none, .len true (.tmp 57)⟩,
  ⟨(some 59), none, .bin .quo (.tmp 58) (.cst (LV.int .i64 8))⟩,
  ⟨(some 60), none, .call id_ip6_big [(.tmp 59), (.cst (LV.int .i64 1))]⟩,
  ⟨(some 61), none, .bin .add (.tmp 55) (.tmp 60)⟩,
  ⟨(some 62), none, .fieldAddr 1 1 (.tmp 9)⟩,
  ⟨(some 63), none, .load 1 false (.tmp 62)⟩,
  ⟨(some 64), none, .bin .add (.tmp 61) (.tmp 63)⟩,
  ⟨(some 65), none, .mov (.tmp 6)⟩,
  ⟨(some 66), none, .bin .add (.tmp 64) (.tmp 65)⟩,
  ⟨(some 6), none, .mov (.tmp 66)⟩] []) (.reg [
  ⟨(some 67), none, .fieldAddr 0 0 (.tmp 9)⟩,
  ⟨(some 68), none, .load 1 false (.tmp 67)⟩,
  ⟨(some 5), none, .mov (.tmp 68)⟩] [])))) (.reg [
  ⟨(some 47), none, .mov (.tmp 8)⟩,
  ⟨(some 48), none, .bin .sub (.tmp 47) (.cst (LV.int .i64 1))⟩,
  ⟨(some 8), none, .mov (.tmp 48)⟩] [])))))) (.seq (.reg [
  ⟨(some 69), none, .fieldAddr 0 0 (.tmp 1)⟩,
  ⟨(some 70), none, .load 1 false (.tmp 69)⟩,
  ⟨(some 71), none, .bin .shl (.tmp 70) (.cst (LV.int .u64 20))⟩,
  ⟨(some 72), none, .bin .or (.cst (LV.int .i64 1610612736)) (.tmp 71)⟩,
  ⟨(some 73), none, .fieldAddr 1 1 (.tmp 1)⟩,
  ⟨(some 74), none, .load 1 false (.tmp 73)⟩,
  ⟨(some 75), none, .bin .or (.tmp 72) (.tmp 74)⟩,
  ⟨(some 76), none, .call id_ip6_big [(.tmp 75), (.cst (LV.int .i64 4))]⟩,
  ⟨(some 77), none, .mov (.tmp 6)⟩,
  ⟨(some 78), none, .len true (.tmp 77)⟩,
  ⟨(some 79), none, .call id_ip6_big [(.tmp 78), (.cst (LV.int .i64 2))]⟩,
  ⟨(some 80), none, .bin .add (.tmp 76) (.tmp 79)⟩,
  ⟨(some 81), none, .mov (.tmp 5)⟩,
  ⟨(some 82), none, .call id_ip6_big [(.tmp 81), (.cst (LV.int .i64 1))]⟩,
  ⟨(some 83), none, .bin .add (.tmp 80) (.tmp 82)⟩,
  ⟨(some 84), none, .fieldAddr 2 2 (.tmp 1)⟩,
  ⟨(some 85), none, .load 1 false (.tmp 84)⟩,
  ⟨(some 86), none, .call id_ip6_big [(.tmp 85), (.cst (LV.int .i64 1))]⟩,
  ⟨(some 87), none, .bin .add (.tmp 83) (.tmp 86)⟩,
  ⟨(some 88), none, .fieldAddr 3 3 (.tmp 1)⟩,
  ⟨(some 89), none, .slcArr 16 (.tmp 88) none none⟩,
  ⟨(some 90), none, .b2s (.tmp 89)⟩,
  ⟨(some 91), none, .bin .add (.tmp 87) (.tmp 90)⟩,
  ⟨(some 92), none, .fieldAddr 4 19 (.tmp 1)⟩,
  ⟨(some 93), none, .slcArr 16 (.tmp 92) none none⟩,
  ⟨(some 94), none, .b2s (.tmp 93)⟩,
  ⟨(some 95), none, .bin .add (.tmp 91) (.tmp 94)⟩,
  ⟨(some 96), none, .mov (.tmp 6)⟩,
  ⟨(some 97), none, .bin .add (.tmp 95) (.tmp 96)⟩,
  ⟨(some 2), none, .mov (.tmp 97)⟩,
  ⟨(some 3), none, .mov (.cst LV.nili)⟩] []) .ret)))))), [.tmp 2, .tmp 3]⟩
/-- interpreter/interpreterlaw04.zeros -/
def c_interpreterlaw04_zeros : MFn := ⟨1, 5, (.seq (.reg [
  ⟨(some 2), none, .mov (.cst (LV.str []))⟩] []) (.seq (.reg [
  ⟨(some 3), none, .mov (.tmp 0)⟩,
  ⟨(some 4), none, .call id_strings_Repeat [(.cst (LV.str [0])), (.tmp 3)]⟩,
  ⟨(some 2), none, .mov (.tmp 4)⟩] []) .ret)), [.tmp 2]⟩
/-- interpreter/ip6.Routed -/
def c_ip6_Routed : MFn := ⟨1, 27, (.seq (.reg [
  ⟨(some 2), none, .mov (.cst (LV.bool false))⟩] []) (.seq (.seq (.reg [
  ⟨(some 5), none, .mov (.tmp 0)⟩,
  ⟨(some 6), none, .len false (.tmp 5)⟩,
  ⟨(some 7), none, .mov (.cst (LV.int .i64 0))⟩] []) (.block 0 (.loop [2, 7] [8, 9, 10, 4, 11, 12, 13, 14, 15, 16, 17, 18, 19, 20, 21, 22, 23, 24, 25, 26] (.seq (.reg [
  ⟨(some 8), none, .bin .lss (.tmp 7) (.tmp 6)⟩] []) (.seq (.cond (.tmp 8) .skip (.exit 0)) (.seq (.block 1 (.seq (.reg [
  ⟨(some 9), none, .idxAddr none 2 (.tmp 5) (.tmp 7)⟩,
  ⟨(some 10), none, .load 2 true (.tmp 9)⟩,
  ⟨(some 4), none, .alloc (LV.agg [(LV.int .i64 0), (LV.str [])])⟩,
  ⟨none, none, .store 2 true (.tmp 4) (.tmp 10)⟩] []) (.seq (.reg [
  ⟨(some 11), none, .fieldAddr 0 0 (.tmp 4)⟩,
  ⟨(some 12), none, .load 1 false (.tmp 11)⟩,
  ⟨(some 13), none, .bin .eql (.tmp 12) (.cst (LV.int .i64 43))⟩,
  ⟨(some 14), none, .mov (.tmp 13)⟩,
  ⟨(some 15), (some (14, true)), .fieldAddr 1 1 (.tmp 4)⟩,
  ⟨(some 16), (some (14, true)), .load 1 false (.tmp 15)⟩,
  ⟨(some 17), (some (14, true)), .len true (.tmp 16)⟩,
  ⟨(some 18), (some (14, true)), .bin .gtr (.tmp 17) (.cst (LV.int .i64 1))⟩,
  ⟨(some 19), none, .pick (.tmp 14) (.tmp 18) (.cst (LV.bool false))⟩,
  ⟨(some 20), none, .mov (.tmp 19)⟩,
  ⟨(some 21), (some (20, true)), .fieldAddr 1 1 (.tmp 4)⟩,
  ⟨(some 22), (some (20, true)), .load 1 false (.tmp 21)⟩,
  ⟨(some 23), (some (20, true)), .idxStr (.tmp 22) (.cst (LV.int .i64 1))⟩,
  ⟨(some 24), (some (20, true)), .bin .neq (.tmp 23) (.cst (LV.int .u8 0))⟩,
  ⟨(some 25), none, .pick (.tmp 20) (.tmp 24) (.cst (LV.bool false))⟩] []) (.cond (.tmp 25) (.seq (.reg [
  ⟨(some 2), none, .mov (.cst (LV.bool true))⟩] []) .ret) .skip)))) (.reg [
  ⟨(some 26), none, .bin .add (.tmp 7) (.cst (LV.int .i64 1))⟩,
  ⟨(some 7), none, .mov (.tmp 26)⟩] []))))))) (.seq (.reg [
  ⟨(some 2), none, .mov (.cst (LV.bool false))⟩] []) .ret))), [.tmp 2]⟩
/-- interpreter/interpreterref04.Bytes -/
def c_interpreterref04_Bytes : MFn := ⟨1, 153, (.seq (.reg [
  ⟨(some 1), none, .box (.tmp 0)⟩,
  ⟨(some 2), none, .mov (.cst (LV.str []))⟩,
  ⟨(some 3), none, .mov (.cst (LV.int .i64 0))⟩] []) (.seq (.reg [
  ⟨(some 13), none, .load 42 true (.tmp 1)⟩,
  ⟨(some 14), none, .call id_interpreterref04_Why [(.tmp 13)]⟩,
  ⟨(some 4), none, .mov (.tmp 14)⟩] []) (.seq (.seq (.reg [
  ⟨(some 15), none, .mov (.tmp 4)⟩,
  ⟨(some 16), none, .bin .neq (.tmp 15) (.cst (LV.int .i64 0))⟩] []) (.cond (.tmp 16) (.seq (.reg [
  ⟨(some 17), none, .mov (.tmp 4)⟩,
  ⟨(some 2), none, .mov (.cst (LV.str []))⟩,
  ⟨(some 3), none, .mov (.tmp 17)⟩] []) .ret) .skip)) (.seq (.reg [
  ⟨(some 5), none, .nilT 1⟩] []) (.seq (.seq (.reg [
  ⟨(some 6), none, .mov (.cst (LV.int .i64 0))⟩] []) (.block 0 (.loop [5, 6] [18, 19, 20, 21, 22, 25, 26, 27, 28, 29, 30, 31, 32, 33, 23, 24] (.seq (.seq (.reg [
  ⟨(some 18), none, .mov (.tmp 6)⟩,
  ⟨(some 19), none, .fieldAddr 5 35 (.tmp 1)⟩,
  ⟨(some 20), none, .load 1 false (.tmp 19)⟩,
  ⟨(some 21), none, .len false (.tmp 20)⟩,
  ⟨(some 22), none, .bin .lss (.tmp 18) (.tmp 21)⟩] []) (.cond (.tmp 22) .skip (.exit 0))) (.seq (.block 1 (.reg [
  ⟨(some 25), none, .mov (.tmp 5)⟩,
  ⟨(some 26), none, .fieldAddr 5 35 (.tmp 1)⟩,
  ⟨(some 27), none, .load 1 false (.tmp 26)⟩,
  ⟨(some 28), none, .mov (.tmp 6)⟩,
  ⟨(some 29), none, .idxAddr none 2 (.tmp 27) (.tmp 28)⟩,
  ⟨(some 30), none, .fieldAddr 0 0 (.tmp 29)⟩,
  ⟨(some 31), none, .load 1 false (.tmp 30)⟩,
  ⟨(some 32), none, .bsl (LV.int .i64 0) 1 [(0, (.tmp 31))]⟩,
  ⟨(some 33), none, .append 1 8 (.tmp 25) (.tmp 32)⟩,
  ⟨(some 5), none, .mov (.tmp 33)⟩] [])) (.reg [
  ⟨(some 23), none, .mov (.tmp 6)⟩,
  ⟨(some 24), none, .bin .add (.tmp 23) (.cst (LV.int .i64 1))⟩,
  ⟨(some 6), none, .mov (.tmp 24)⟩] [])))))) (.seq (.seq (.reg [
  ⟨(some 34), none, .fieldAddr 6 36 (.tmp 1)⟩,
  ⟨(some 35), none, .load 1 false (.tmp 34)⟩] []) (.cond (.tmp 35) (.reg [
  ⟨(some 36), none, .mov (.tmp 5)⟩,
  ⟨(some 37), none, .bsl (LV.int .i64 0) 1 [(0, (.cst (LV.int .i64 44)))]⟩,
  ⟨(some 38), none, .append 1 8 (.tmp 36) (.tmp 37)⟩,
  ⟨(some 5), none, .mov (.tmp 38)⟩] []) .skip)) (.seq (.reg [
  ⟨(some 39), none, .mov (.tmp 5)⟩,
  ⟨(some 40), none, .fieldAddr 10 40 (.tmp 1)⟩,
  ⟨(some 41), none, .load 1 false (.tmp 40)⟩,
  ⟨(some 42), none, .bsl (LV.int .i64 0) 1 [(0, (.tmp 41))]⟩,
  ⟨(some 43), none, .append 1 8 (.tmp 39) (.tmp 42)⟩,
  ⟨(some 5), none, .mov (.tmp 43)⟩] []) (.seq (.reg [
  ⟨(some 7), none, .mov (.cst (LV.str []))⟩] []) (.seq (.seq (.reg [
  ⟨(some 8), none, .mov (.cst (LV.int .i64 0))⟩] []) (.block 2 (.loop [7, 8] [44, 45, 46, 47, 48, 51, 52, 53, 54, 55, 56, 57, 58, 59, 60, 61, 62, 63, 64, 65, 66, 67, 68, 69, 70, 71, 72, 73, 74, 75, 76, 77, 49, 50] (.seq (.seq (.reg [
  ⟨(some 44), none, .mov (.tmp 8)⟩,
  ⟨(some 45), none, .fieldAddr 5 35 (.tmp 1)⟩,
  ⟨(some 46), none, .load 1 false (.tmp 45)⟩,
  ⟨(some 47), none, .len false (.tmp 46)⟩,
  ⟨(some 48), none, .bin .lss (.tmp 44) (.tmp 47)⟩] []) (.cond (.tmp 48) .skip (.exit 2))) (.seq (.block 3 (.reg [
  ⟨(some 51), none, .mov (.tmp 7)⟩,
  ⟨(some 52), none, .mov (.tmp 5)⟩,
  ⟨(some 53), none, .mov (.tmp 8)⟩,
  ⟨(some 54), none, .bin .add (.tmp 53) (.cst (LV.int .i64 1))⟩,
  ⟨(some 55), none, .idxAddr none 1 (.tmp 52) (.tmp 54)⟩,
  ⟨(some 56), none, .load 1 false (.tmp 55)⟩,
  ⟨(some 57), none, .call id_interpreterref04_put [(.tmp 56), (.cst (LV.int .i64 1))]⟩,
  ⟨(some 58), none, .bin .add (.tmp 51) (.tmp 57)⟩,
  ⟨(some 59), none, .fieldAddr 5 35 (.tmp 1)⟩,
  ⟨(some 60), none, .load 1 false (.tmp 59)⟩,
  ⟨(some 61), none, .mov (.tmp 8)⟩,
  ⟨(some 62), none, .idxAddr none 2 (.tmp 60) (.tmp 61)⟩,
  ⟨(some 63), none, .fieldAddr 1 1 (.tmp 62)⟩,
  ⟨(some 64), none, .load 1 false (.tmp 63)⟩,
  ⟨(some 65), none, .len true (.tmp 64)⟩,
  ⟨(some 66), none, .bin .add (.tmp 65) (.cst (LV.int .i64 2))⟩,
  ⟨(some 67), none, .bin .quo (.tmp 66) (.cst (LV.int .i64 8))⟩,
  ⟨(some 68), none, .bin .sub (.tmp 67) (.cst (LV.int .i64 1))⟩,
  ⟨(some 69), none, .call id_interpreterref04_put [(.tmp 68), (.cst (LV.int .i64 1))]⟩,
  ⟨(some 70), none, .bin .add (.tmp 58) (.tmp 69)⟩,
  ⟨(some 71), none, .fieldAddr 5 35 (.tmp 1)⟩,
  ⟨(some 72), none, .load 1 false (.tmp 71)⟩,
  ⟨(some 73), none, .mov (.tmp 8)⟩,
  ⟨(some 74), none, .idxAddr none 2 (.tmp 72) (.tmp 73)⟩,
  ⟨(some 75), none, .fieldAddr 1 1 (.tmp 74)⟩,
  ⟨(some 76), none, .load 1 false (.tmp 75)⟩,
  ⟨(some 77), none, .bin .add (.tmp 70) (.tmp 76)⟩,
  ⟨(some 7), none, .mov (.tmp 77)⟩] [])) (.reg [
  ⟨(some 49), none, .mov (.tmp 8)⟩,
  ⟨(some 50), none, .bin .add (.tmp 49) (.cst (LV.int .i64 1))⟩,
  ⟨(some 8), none, .mov (.tmp 50)⟩] [])))))) (.seq (.seq (.reg [
  ⟨(some 78), none, .fieldAddr 6 36 (.tmp 1)⟩,
  ⟨(some 79), none, .load 1 false (.tmp 78)⟩] []) (.cond (.tmp 79) (.seq (.reg [
  ⟨(some 80), none, .fieldAddr 8 38 (.tmp 1)⟩,
  ⟨(some 81), none, .load 1 false (.tmp 80)⟩,
  ⟨(some 9), none, .mov (.tmp 81)⟩] []) (.seq (.seq (.reg [
  ⟨(some 82), none, .fieldAddr 9 39 (.tmp 1)⟩,
  ⟨(some 83), none, .load 1 false (.tmp 82)⟩] []) (.cond (.tmp 83) (.reg [
  ⟨(some 84), none, .mov (.tmp 9)⟩,
  ⟨(some 85), none, .bin .add (.tmp 84) (.cst (LV.int .i64 1))⟩,
  ⟨(some 9), none, .mov (.tmp 85)⟩] []) .skip)) (.reg [
  ⟨(some 86), none, .mov (.tmp 7)⟩,
  ⟨(some 87), none, .fieldAddr 10 40 (.tmp 1)⟩,
  ⟨(some 88), none, .load 1 false (.tmp 87)⟩,
  ⟨(some 89), none, .call id_interpreterref04_put [(.tmp 88), (.cst (LV.int .i64 1))]⟩,
  ⟨(some 90), none, .bin .add (.tmp 86) (.tmp 89)⟩,
  ⟨(some 91), none, .call id_interpreterref04_put [(.cst (LV.int .i64 0)), (.cst (LV.int .i64 1))]⟩,
  ⟨(some 92), none, .bin .add (.tmp 90) (.tmp 91)⟩,
  ⟨(some 93), none, .mov (.tmp 9)⟩,
  ⟨(some 94), none, .call id_interpreterref04_put [(.tmp 93), (.cst (LV.int .i64 2))]⟩,
  ⟨(some 95), none, .bin .add (.tmp 92) (.tmp 94)⟩,
  ⟨(some 96), none, .fieldAddr 7 37 (.tmp 1)⟩,
  ⟨(some 97), none, .load 1 false (.tmp 96)⟩,
  ⟨(some 98), none, .conv .i64 (.tmp 97)⟩,
  ⟨(some 99), none, .call id_interpreterref04_put [(.tmp 98), (.cst (LV.int .i64 4))]⟩,
  ⟨(some 100), none, .bin .add (.tmp 95) (.tmp 99)⟩,
  ⟨(some 7), none, .mov (.tmp 100)⟩] []))) .skip)) (.seq (.reg [
  ⟨(some 101), none, .mov (.tmp 7)⟩,
  ⟨(some 102), none, .fieldAddr 11 41 (.tmp 1)⟩,
  ⟨(some 103), none, .load 1 false (.tmp 102)⟩,
  ⟨(some 104), none, .bin .add (.tmp 101) (.tmp 103)⟩,
  ⟨(some 7), none, .mov (.tmp 104)⟩] []) (.seq (.reg [
  ⟨(some 105), none, .fieldAddr 0 0 (.tmp 1)⟩,
  ⟨(some 106), none, .load 1 false (.tmp 105)⟩,
  ⟨(some 107), none, .bin .mul (.tmp 106) (.cst (LV.int .i64 1048576))⟩,
  ⟨(some 108), none, .bin .add (.cst (LV.int .i64 1610612736)) (.tmp 107)⟩,
  ⟨(some 109), none, .fieldAddr 1 1 (.tmp 1)⟩,
  ⟨(some 110), none, .load 1 false (.tmp 109)⟩,
  ⟨(some 111), none, .bin .add (.tmp 108) (.tmp 110)⟩,
  ⟨(some 112), none, .call id_interpreterref04_put [(.tmp 111), (.cst (LV.int .i64 4))]⟩,
  ⟨(some 113), none, .mov (.tmp 7)⟩,
  ⟨(some 114), none, .len true (.tmp 113)⟩,
  ⟨(some 115), none, .call id_interpreterref04_put [(.tmp 114), (.cst (LV.int .i64 2))]⟩,
  ⟨(some 116), none, .bin .add (.tmp 112) (.tmp 115)⟩,
  ⟨(some 117), none, .mov (.tmp 5)⟩,
  ⟨(some 118), none, .idxAddr none 1 (.tmp 117) (.cst (LV.int .i64 0))⟩,
  ⟨(some 119), none, .load 1 false (.tmp 118)⟩,
  ⟨(some 120), none, .call id_interpreterref04_put [(.tmp 119), (.cst (LV.int .i64 1))]⟩,
  ⟨(some 121), none, .bin .add (.tmp 116) (.tmp 120)⟩,
  ⟨(some 122), none, .fieldAddr 2 2 (.tmp 1)⟩,
  ⟨(some 123), none, .load 1 false (.tmp 122)⟩,
  ⟨(some 124), none, .call id_interpreterref04_put [(.tmp 123), (.cst (LV.int .i64 1))]⟩,
  ⟨(some 125), none, .bin .add (.tmp 121) (.tmp 124)⟩,
  ⟨(some 10), none, .mov (.tmp 125)⟩] []) (.seq (.seq (.reg [
  ⟨(some 11), none, .mov (.cst (LV.int .i64 0))⟩] []) (.block 4 (.loop [10, 11] [126, 127, 130, 131, 132, 133, 134, 135, 136, 137, 128, 129] (.seq (.seq (.reg [
  ⟨(some 126), none, .mov (.tmp 11)⟩,
  ⟨(some 127), none, .bin .lss (.tmp 126) (.cst (LV.int .i64 16))⟩] []) (.cond (.tmp 127) .skip (.exit 4))) (.seq (.block 5 (.reg [
  ⟨(some 130), none, .mov (.tmp 10)⟩,
  ⟨(some 131), none, .mov (.tmp 11)⟩,
  ⟨(some 132), none, .fieldAddr 3 3 (.tmp 1)⟩,
  ⟨(some 133), none, .idxAddr (some 16) 1 (.tmp 132) (.tmp 131)⟩,
  ⟨(some 134), none, .load 1 false (.tmp 133)⟩,
  ⟨(some 135), none, .bsl (LV.int .u8 0) 1 [(0, (.tmp 134))]⟩,
  ⟨(some 136), none, .b2s (.tmp 135)⟩,
  ⟨(some 137), none, .bin .add (.tmp 130) (.tmp 136)⟩,
  ⟨(some 10), none, .mov (.tmp 137)⟩] [])) (.reg [
  ⟨(some 128), none, .mov (.tmp 11)⟩,
  ⟨(some 129), none, .bin .add (.tmp 128) (.cst (LV.int .i64 1))⟩,
  ⟨(some 11), none, .mov (.tmp 129)⟩] [])))))) (.seq (.seq (.reg [
  ⟨(some 12), none, .mov (.cst (LV.int .i64 0))⟩] []) (.block 6 (.loop [10, 12] [138, 139, 142, 143, 144, 145, 146, 147, 148, 149, 140, 141] (.seq (.seq (.reg [
  ⟨(some 138), none, .mov (.tmp 12)⟩,
  ⟨(some 139), none, .bin .lss (.tmp 138) (.cst (LV.int .i64 16))⟩] []) (.cond (.tmp 139) .skip (.exit 6))) (.seq (.block 7 (.reg [
  ⟨(some 142), none, .mov (.tmp 10)⟩,
  ⟨(some 143), none, .mov (.tmp 12)⟩,
  ⟨(some 144), none, .fieldAddr 4 19 (.tmp 1)⟩,
  ⟨(some 145), none, .idxAddr (some 16) 1 (.tmp 144) (.tmp 143)⟩,
  ⟨(some 146), none, .load 1 false (.tmp 145)⟩,
  ⟨(some 147), none, .bsl (LV.int .u8 0) 1 [(0, (.tmp 146))]⟩,
  ⟨(some 148), none, .b2s (.tmp 147)⟩,
  ⟨(some 149), none, .bin .add (.tmp 142) (.tmp 148)⟩,
  ⟨(some 10), none, .mov (.tmp 149)⟩] [])) (.reg [
  ⟨(some 140), none, .mov (.tmp 12)⟩,
  ⟨(some 141), none, .bin .add (.tmp 140) (.cst (LV.int .i64 1))⟩,
  ⟨(some 12), none, .mov (.tmp 141)⟩] [])))))) (.seq (.reg [
  ⟨(some 150), none, .mov (.tmp 10)⟩,
  ⟨(some 151), none, .mov (.tmp 7)⟩,
  ⟨(some 152), none, .bin .add (.tmp 150) (.tmp 151)⟩,
  ⟨(some 2), none, .mov (.tmp 152)⟩,
  ⟨(some 3), none, .mov (.cst (LV.int .i64 0))⟩] []) .ret))))))))))))))), [.tmp 2, .tmp 3]⟩
/-- interpreter/interpreterref04.Routed -/
def c_interpreterref04_Routed : MFn := ⟨1, 34, (.seq (.reg [
  ⟨(some 2), none, .mov (.cst (LV.bool false))⟩] []) (.seq (.seq (.reg [
  ⟨(some 3), none, .mov (.cst (LV.int .i64 0))⟩] []) (.block 0 (.loop [2, 3] [4, 5, 6, 7, 10, 11, 12, 13, 14, 15, 16, 17, 18, 19, 20, 21, 22, 23, 24, 25, 26, 27, 28, 29, 30, 31, 32, 33, 8, 9] (.seq (.seq (.reg [
  ⟨(some 4), none, .mov (.tmp 3)⟩,
  ⟨(some 5), none, .mov (.tmp 0)⟩,
  ⟨(some 6), none, .len false (.tmp 5)⟩,
  ⟨(some 7), none, .bin .lss (.tmp 4) (.tmp 6)⟩] []) (.cond (.tmp 7) .skip (.exit 0))) (.seq (.block 1 (.seq (.reg [
  ⟨(some 10), none, .mov (.tmp 0)⟩,
  ⟨(some 11), none, .mov (.tmp 3)⟩,
  ⟨(some 12), none, .idxAddr none 2 (.tmp 10) (.tmp 11)⟩,
  ⟨(some 13), none, .fieldAddr 0 0 (.tmp 12)⟩,
  ⟨(some 14), none, .load 1 false (.tmp 13)⟩,
  ⟨(some 15), none, .bin .eql (.tmp 14) (.cst (LV.int .i64 43))⟩,
  ⟨(some 16), none, .mov (.tmp 15)⟩,
  ⟨(some 17), (some (16, true)), .mov (.tmp 0)⟩,
  ⟨(some 18), (some (16, true)), .mov (.tmp 3)⟩,
  ⟨(some 19), (some (16, true)), .idxAddr none 2 (.tmp 17) (.tmp 18)⟩,
  ⟨(some 20), (some (16, true)), .fieldAddr 1 1 (.tmp 19)⟩,
  ⟨(some 21), (some (16, true)), .load 1 false (.tmp 20)⟩,
  ⟨(some 22), (some (16, true)), .len true (.tmp 21)⟩,
  ⟨(some 23), (some (16, true)), .bin .geq (.tmp 22) (.cst (LV.int .i64 2))⟩,
  ⟨(some 24), none, .pick (.tmp 16) (.tmp 23) (.cst (LV.bool false))⟩,
  ⟨(some 25), none, .mov (.tmp 24)⟩,
  ⟨(some 26), (some (25, true)), .mov (.tmp 0)⟩,
  ⟨(some 27), (some (25, true)), .mov (.tmp 3)⟩,
  ⟨(some 28), (some (25, true)), .idxAddr none 2 (.tmp 26) (.tmp 27)⟩,
  ⟨(some 29), (some (25, true)), .fieldAddr 1 1 (.tmp 28)⟩,
  ⟨(some 30), (some (25, true)), .load 1 false (.tmp 29)⟩,
  ⟨(some 31), (some (25, true)), .idxStr (.tmp 30) (.cst (LV.int .i64 1))⟩,
  ⟨(some 32), (some (25, true)), .bin .neq (.tmp 31) (.cst (LV.int .u8 0))⟩,
  ⟨(some 33), none, .pick (.tmp 25) (.tmp 32) (.cst (LV.bool false))⟩] []) (.cond (.tmp 33) (.seq (.reg [
  ⟨(some 2), none, .mov (.cst (LV.bool true))⟩] []) .ret) .skip))) (.reg [
  ⟨(some 8), none, .mov (.tmp 3)⟩,
  ⟨(some 9), none, .bin .add (.tmp 8) (.cst (LV.int .i64 1))⟩,
  ⟨(some 3), none, .mov (.tmp 9)⟩] [])))))) (.seq (.reg [
  ⟨(some 2), none, .mov (.cst (LV.bool false))⟩] []) .ret))), [.tmp 2]⟩
/-- interpreter/ip6.fault -/
def c_ip6_fault : MFn := ⟨1, 7, (.seq (.reg [
  ⟨(some 2), none, .mov (.cst LV.nili)⟩] []) (.seq (.reg [
  ⟨(some 3), none, .mov (.tmp 0)⟩,
  ⟨(some 4), none, .build (LV.agg [(LV.int .i64 0), (LV.int .i64 0)]) [(0, (.tmp 3))]⟩,
  ⟨(some 5), none, .box (.tmp 4)⟩,
  ⟨(some 6), none, .mkIface ty_ptr_num_Fault (.tmp 5)⟩,
  ⟨(some 2), none, .mov (.tmp 6)⟩] []) .ret)), [.tmp 2]⟩
/-- interpreter/num.New -/
def c_num_New : MFn := ⟨1, 6, (.seq (.reg [
  ⟨(some 2), none, .mov (.cst LV.nilp)⟩] []) (.seq (.reg [
  ⟨(some 3), none, .mov (.tmp 0)⟩,
  ⟨(some 4), none, .build (LV.agg [(LV.str []), (LV.int .i64 0), LV.nilp]) [(0, (.tmp 3))]⟩,
  ⟨(some 5), none, .boxM (.tmp 4)⟩,
  ⟨(some 2), none, .mov (.tmp 5)⟩] []) .ret)), [.tmp 2]⟩
/-- (*interpreter/num.Reader).U32 -/
def c_num_Reader_U32 : MFn := ⟨1, 8, (.seq (.reg [
  ⟨(some 2), none, .mov (.cst (LV.int .i64 0))⟩,
  ⟨(some 3), none, .mov (.cst LV.nili)⟩] []) (.seq (.reg [
  ⟨(some 4), none, .mov (.tmp 0)⟩,
  ⟨(some 5), none, .callRw id_num_Reader_number [(.tmp 4), (.cst (LV.int .i64 4))]⟩,
  ⟨(some 6), none, .extract (.tmp 5) 0⟩,
  ⟨(some 7), none, .extract (.tmp 5) 1⟩,
  ⟨(some 2), none, .mov (.tmp 6)⟩,
  ⟨(some 3), none, .mov (.tmp 7)⟩] []) .ret)), [.tmp 2, .tmp 3]⟩
/-- interpreter/ip6.pieced -/
def c_ip6_pieced : MFn := ⟨1, 18, (.seq (.reg [
  ⟨(some 1), none, .box (.tmp 0)⟩,
  ⟨(some 2), none, .mov (.cst (LV.bool false))⟩] []) (.seq (.reg [
  ⟨(some 3), none, .fieldAddr 9 39 (.tmp 1)⟩,
  ⟨(some 4), none, .load 1 false (.tmp 3)⟩,
  ⟨(some 5), none, .un .not (.tmp 4)⟩,
  ⟨(some 6), none, .mov (.tmp 5)⟩,
  ⟨(some 7), (some (6, false)), .fieldAddr 11 41 (.tmp 1)⟩,
  ⟨(some 8), (some (6, false)), .load 1 false (.tmp 7)⟩,
  ⟨(some 9), (some (6, false)), .bin .neq (.tmp 8) (.cst (LV.str []))⟩,
  ⟨(some 10), (some (6, false)), .mov (.tmp 9)⟩,
  ⟨(some 11), (some (10, true)), .fieldAddr 11 41 (.tmp 1)⟩,
  ⟨(some 12), (some (10, true)), .load 1 false (.tmp 11)⟩,
  ⟨(some 13), (some (10, true)), .len true (.tmp 12)⟩,
  ⟨(some 14), (some (10, true)), .bin .rem (.tmp 13) (.cst (LV.int .i64 8))⟩,
  ⟨(some 15), (some (10, true)), .bin .eql (.tmp 14) (.cst (LV.int .i64 0))⟩,
  ⟨(some 16), (some (6, false)), .pick (.tmp 10) (.tmp 15) (.cst (LV.bool false))⟩,
  ⟨(some 17), none, .pick (.tmp 6) (.cst (LV.bool true)) (.tmp 16)⟩,
  ⟨(some 2), none, .mov (.tmp 17)⟩] []) .ret)), [.tmp 2]⟩
/-- interpreter/interpreterref04.number -/
def c_interpreterref04_number : MFn := ⟨3, 21, (.seq (.reg [
  ⟨(some 6), none, .mov (.cst (LV.int .i64 0))⟩] []) (.seq (.reg [
  ⟨(some 10), none, .mov (.tmp 0)⟩,
  ⟨(some 11), none, .mov (.tmp 1)⟩,
  ⟨(some 12), none, .build (LV.agg [(LV.str []), (LV.int .i64 0), (LV.int .i64 0), (LV.int .i64 0)]) [(0, (.tmp 10)), (1, (.tmp 11))]⟩,
  ⟨(some 13), none, .boxM (.tmp 12)⟩,
  ⟨(some 7), none, .mov (.tmp 13)⟩] []) (.seq (.reg [
  ⟨(some 15), none, .mov (.tmp 7)⟩,
  ⟨(some 16), none, .mov (.tmp 2)⟩,
  ⟨(some 17), none, .callRw id_interpreterref01_Reader_Number [(.tmp 15), (.tmp 16)]⟩,
  ⟨(some 14), none, .mov (.tmp 17)⟩,
  ⟨(some 18), none, .extract (.tmp 14) 0⟩,
  ⟨(some 19), none, .extract (.tmp 14) 1⟩,
  ⟨(some 8), none, .mov (.tmp 18)⟩,
  ⟨(some 9), none, .mov (.tmp 19)⟩] []) (.seq (.reg [
  ⟨(some 20), none, .mov (.tmp 8)⟩,
  ⟨(some 6), none, .mov (.tmp 20)⟩] []) .ret)))), [.tmp 6]⟩
/-- interpreter/ip6.extends -/
def c_ip6_extends : MFn := ⟨1, 13, (.seq (.reg [
  ⟨(some 2), none, .mov (.cst (LV.bool false))⟩] []) (.seq (.reg [
  ⟨(some 3), none, .mov (.tmp 0)⟩,
  ⟨(some 4), none, .bin .eql (.tmp 3) (.cst (LV.int .i64 0))⟩,
  ⟨(some 5), none, .mov (.tmp 4)⟩,
  ⟨(some 6), (some (5, false)), .mov (.tmp 0)⟩,
  ⟨(some 7), (some (5, false)), .bin .eql (.tmp 6) (.cst (LV.int .i64 43))⟩,
  ⟨(some 8), none, .pick (.tmp 5) (.cst (LV.bool true)) (.tmp 7)⟩,
  ⟨(some 9), none, .mov (.tmp 8)⟩,
  ⟨(some 10), (some (9, false)), .mov (.tmp 0)⟩,
  ⟨(some 11), (some (9, false)), .bin .eql (.tmp 10) (.cst (LV.int .i64 60))⟩,
  ⟨(some 12), none, .pick (.tmp 9) (.cst (LV.bool true)) (.tmp 11)⟩,
  ⟨(some 2), none, .mov (.tmp 12)⟩] []) .ret)), [.tmp 2]⟩
/-- interpreter/ip6.why -/
def c_ip6_why : MFn := ⟨1, 65, (.seq (.reg [
  ⟨(some 1), none, .box (.tmp 0)⟩,
  ⟨(some 2), none, .mov (.cst (LV.int .i64 0))⟩] []) (.seq (.block 0 (.seq (.reg [
  ⟨(some 4), none, .fieldAddr 0 0 (.tmp 1)⟩,
  ⟨(some 5), none, .load 1 false (.tmp 4)⟩,
  ⟨(some 6), none, .call id_ip6_within [(.tmp 5), (.cst (LV.int .i64 255))]⟩,
  ⟨(some 7), none, .un .not (.tmp 6)⟩,
  ⟨(some 8), none, .mov (.tmp 7)⟩,
  ⟨(some 9), (some (8, false)), .fieldAddr 1 1 (.tmp 1)⟩,
  ⟨(some 10), (some (8, false)), .load 1 false (.tmp 9)⟩,
  ⟨(some 11), (some (8, false)), .call id_ip6_within [(.tmp 10), (.cst (LV.int .i64 1048575))]⟩,
  ⟨(some 12), (some (8, false)), .un .not (.tmp 11)⟩,
  ⟨(some 13), none, .pick (.tmp 8) (.cst (LV.bool true)) (.tmp 12)⟩,
  ⟨(some 14), none, .mov (.tmp 13)⟩,
  ⟨(some 15), (some (14, false)), .fieldAddr 2 2 (.tmp 1)⟩,
  ⟨(some 16), (some (14, false)), .load 1 false (.tmp 15)⟩,
  ⟨(some 17), (some (14, false)), .call id_ip6_within [(.tmp 16), (.cst (LV.int .i64 255))]⟩,
  ⟨(some 18), (some (14, false)), .un .not (.tmp 17)⟩,
  ⟨(some 19), none, .pick (.tmp 14) (.cst (LV.bool true)) (.tmp 18)⟩,
  ⟨(some 20), none, .mov (.tmp 19)⟩,
  ⟨(some 21), (some (20, false)), .fieldAddr 10 40 (.tmp 1)⟩,
  ⟨(some 22), (some (20, false)), .load 1 false (.tmp 21)⟩,
  ⟨(some 23), (some (20, false)), .call id_ip6_within [(.tmp 22), (.cst (LV.int .i64 255))]⟩,
  ⟨(some 24), (some (20, false)), .un .not (.tmp 23)⟩,
  ⟨(some 25), none, .pick (.tmp 20) (.cst (LV.bool true)) (.tmp 24)⟩,
  ⟨(some 26), none, .mov (.tmp 25)⟩,
  ⟨(some 27), (some (26, false)), .fieldAddr 8 38 (.tmp 1)⟩,
  ⟨(some 28), (some (26, false)), .load 1 false (.tmp 27)⟩,
  ⟨(some 29), (some (26, false)), .call id_ip6_within [(.tmp 28), (.cst (LV.int .i64 65528))]⟩,
  ⟨(some 30), (some (26, false)), .un .not (.tmp 29)⟩,
  ⟨(some 31), none, .pick (.tmp 26) (.cst (LV.bool true)) (.tmp 30)⟩,
  ⟨(some 32), none, .mov (.tmp 31)⟩,
  ⟨(some 33), (some (32, false)), .fieldAddr 8 38 (.tmp 1)⟩,
  ⟨(some 34), (some (32, false)), .load 1 false (.tmp 33)⟩,
  ⟨(some 35), (some (32, false)), .bin .rem (.tmp 34) (.cst (LV.int .i64 8))⟩,
  ⟨(some 36), (some (32, false)), .bin .neq (.tmp 35) (.cst (LV.int .i64 0))⟩,
  ⟨(some 37), none, .pick (.tmp 32) (.cst (LV.bool true)) (.tmp 36)⟩,
  ⟨(some 3), none, .mov (.tmp 37)⟩] []) (.cond (.tmp 3) (.seq (.reg [
  ⟨(some 2), none, .mov (.cst (LV.int .i64 13))⟩] []) .ret) (.seq (.reg [
  ⟨(some 39), none, .load 42 true (.tmp 1)⟩,
  ⟨(some 40), none, .call id_ip6_kinds [(.tmp 39)]⟩,
  ⟨(some 41), none, .un .not (.tmp 40)⟩,
  ⟨(some 38), none, .mov (.tmp 41)⟩] []) (.cond (.tmp 38) (.seq (.reg [
  ⟨(some 2), none, .mov (.cst (LV.int .i64 10))⟩] []) .ret) (.seq (.reg [
  ⟨(some 43), none, .load 42 true (.tmp 1)⟩,
  ⟨(some 44), none, .call id_ip6_formed [(.tmp 43)]⟩,
  ⟨(some 45), none, .un .not (.tmp 44)⟩,
  ⟨(some 42), none, .mov (.tmp 45)⟩] []) (.cond (.tmp 42) (.seq (.reg [
  ⟨(some 2), none, .mov (.cst (LV.int .i64 8))⟩] []) .ret) (.seq (.reg [
  ⟨(some 47), none, .fieldAddr 5 35 (.tmp 1)⟩,
  ⟨(some 48), none, .load 1 false (.tmp 47)⟩,
  ⟨(some 49), none, .len false (.tmp 48)⟩,
  ⟨(some 50), none, .bin .gtr (.tmp 49) (.cst (LV.int .i64 8))⟩,
  ⟨(some 51), none, .mov (.tmp 50)⟩,
  ⟨(some 52), (some (51, false)), .fieldAddr 11 41 (.tmp 1)⟩,
  ⟨(some 53), (some (51, false)), .load 1 false (.tmp 52)⟩,
  ⟨(some 54), (some (51, false)), .len true (.tmp 53)⟩,
  ⟨(some 55), (some (51, false)), .fieldAddr 8 38 (.tmp 1)⟩,
  ⟨(some 56), (some (51, false)), .load 1 false (.tmp 55)⟩,
  ⟨(some 57), (some (51, false)), .bin .sub (.cst (LV.int .i64 65535)) (.tmp 56)⟩,
  ⟨(some 58), (some (51, false)), .bin .gtr (.tmp 54) (.tmp 57)⟩,
  ⟨(some 59), none, .pick (.tmp 51) (.cst (LV.bool true)) (.tmp 58)⟩,
  ⟨(some 60), none, .mov (.tmp 59)⟩,
  ⟨(some 61), (some (60, false)), .load 42 true (.tmp 1)⟩,
  ⟨(some 62), (some (60, false)), .call id_ip6_size [(.tmp 61)]⟩,
  ⟨(some 63), (some (60, false)), .bin .gtr (.tmp 62) (.cst (LV.int .i64 65535))⟩,
  ⟨(some 64), none, .pick (.tmp 60) (.cst (LV.bool true)) (.tmp 63)⟩,
  ⟨(some 46), none, .mov (.tmp 64)⟩] []) (.cond (.tmp 46) (.seq (.reg [
  ⟨(some 2), none, .mov (.cst (LV.int .i64 3))⟩] []) .ret) .skip))))))))) (.seq (.reg [
  ⟨(some 2), none, .mov (.cst (LV.int .i64 0))⟩] []) .ret))), [.tmp 2]⟩
/-- interpreter/ip6.big -/
def c_ip6_big : MFn := ⟨2, 14, (.seq (.reg [
  ⟨(some 4), none, .mov (.cst (LV.str []))⟩] []) (.seq (.reg [
  ⟨(some 8), none, .mov (.tmp 0)⟩,
  ⟨(some 9), none, .mov (.tmp 1)⟩,
  ⟨(some 10), none, .call id_num_Big [(.tmp 8), (.tmp 9)]⟩,
  ⟨(some 7), none, .mov (.tmp 10)⟩,
  ⟨(some 11), none, .extract (.tmp 7) 0⟩,
  ⟨(some 12), none, .extract (.tmp 7) 1⟩,
  ⟨(some 5), none, .mov (.tmp 11)⟩,
  ⟨(some 6), none, .mov (.tmp 12)⟩] []) (.seq (.reg [
  ⟨(some 13), none, .mov (.tmp 5)⟩,
  ⟨(some 4), none, .mov (.tmp 13)⟩] []) .ret))), [.tmp 4]⟩
/-- interpreter/interpreterref04.Why -/
def c_interpreterref04_Why : MFn := ⟨1, 197, (.seq (.reg [
  ⟨(some 1), none, .box (.tmp 0)⟩,
  ⟨(some 2), none, .mov (.cst (LV.int .i64 0))⟩] []) (.seq (.seq (.reg [
  ⟨(some 8), none, .fieldAddr 0 0 (.tmp 1)⟩,
  ⟨(some 9), none, .load 1 false (.tmp 8)⟩,
  ⟨(some 10), none, .call id_interpreterref04_bound [(.tmp 9), (.cst (LV.int .i64 255))]⟩,
  ⟨(some 11), none, .un .not (.tmp 10)⟩,
  ⟨(some 12), none, .mov (.tmp 11)⟩,
  ⟨(some 13), (some (12, false)), .fieldAddr 1 1 (.tmp 1)⟩,
  ⟨(some 14), (some (12, false)), .load 1 false (.tmp 13)⟩,
  ⟨(some 15), (some (12, false)), .call id_interpreterref04_bound [(.tmp 14), (.cst (LV.int .i64 1048575))]⟩,
  ⟨(some 16), (some (12, false)), .un .not (.tmp 15)⟩,
  ⟨(some 17), none, .pick (.tmp 12) (.cst (LV.bool true)) (.tmp 16)⟩,
  ⟨(some 18), none, .mov (.tmp 17)⟩,
  ⟨(some 19), (some (18, false)), .fieldAddr 2 2 (.tmp 1)⟩,
  ⟨(some 20), (some (18, false)), .load 1 false (.tmp 19)⟩,
  ⟨(some 21), (some (18, false)), .call id_interpreterref04_bound [(.tmp 20), (.cst (LV.int .i64 255))]⟩,
  ⟨(some 22), (some (18, false)), .un .not (.tmp 21)⟩,
  ⟨(some 23), none, .pick (.tmp 18) (.cst (LV.bool true)) (.tmp 22)⟩,
  ⟨(some 24), none, .mov (.tmp 23)⟩,
  ⟨(some 25), (some (24, false)), .fieldAddr 10 40 (.tmp 1)⟩,
  ⟨(some 26), (some (24, false)), .load 1 false (.tmp 25)⟩,
  ⟨(some 27), (some (24, false)), .call id_interpreterref04_bound [(.tmp 26), (.cst (LV.int .i64 255))]⟩,
  ⟨(some 28), (some (24, false)), .un .not (.tmp 27)⟩,
  ⟨(some 29), none, .pick (.tmp 24) (.cst (LV.bool true)) (.tmp 28)⟩,
  ⟨(some 30), none, .mov (.tmp 29)⟩,
  ⟨(some 31), (some (30, false)), .fieldAddr 8 38 (.tmp 1)⟩,
  ⟨(some 32), (some (30, false)), .load 1 false (.tmp 31)⟩,
  ⟨(some 33), (some (30, false)), .call id_interpreterref04_bound [(.tmp 32), (.cst (LV.int .i64 65528))]⟩,
  ⟨(some 34), (some (30, false)), .un .not (.tmp 33)⟩,
  ⟨(some 35), none, .pick (.tmp 30) (.cst (LV.bool true)) (.tmp 34)⟩,
  ⟨(some 36), none, .mov (.tmp 35)⟩,
  ⟨(some 37), (some (36, false)), .fieldAddr 8 38 (.tmp 1)⟩,
  ⟨(some 38), (some (36, false)), .load 1 false (.tmp 37)⟩,
  ⟨(some 39), (some (36, false)), .bin .rem (.tmp 38) (.cst (LV.int .i64 8))⟩,
  ⟨(some 40), (some (36, false)), .bin .neq (.tmp 39) (.cst (LV.int .i64 0))⟩,
  ⟨(some 41), none, .pick (.tmp 36) (.cst (LV.bool true)) (.tmp 40)⟩] []) (.cond (.tmp 41) (.seq (.reg [
  ⟨(some 2), none, .mov (.cst (LV.int .i64 13))⟩] []) .ret) .skip)) (.seq (.reg [
  ⟨(some 42), none, .fieldAddr 11 41 (.tmp 1)⟩,
  ⟨(some 43), none, .load 1 false (.tmp 42)⟩,
  ⟨(some 44), none, .len true (.tmp 43)⟩,
  ⟨(some 3), none, .mov (.tmp 44)⟩] []) (.seq (.seq (.reg [
  ⟨(some 4), none, .mov (.cst (LV.int .i64 0))⟩] []) (.block 0 (.loop [2, 3, 4] [45, 46, 47, 48, 49, 52, 53, 54, 55, 56, 57, 5, 58, 59, 60, 61, 62, 63, 64, 65, 66, 67, 68, 69, 70, 71, 72, 73, 74, 75, 76, 77, 50, 51] (.seq (.seq (.reg [
  ⟨(some 45), none, .mov (.tmp 4)⟩,
  ⟨(some 46), none, .fieldAddr 5 35 (.tmp 1)⟩,
  ⟨(some 47), none, .load 1 false (.tmp 46)⟩,
  ⟨(some 48), none, .len false (.tmp 47)⟩,
  ⟨(some 49), none, .bin .lss (.tmp 45) (.tmp 48)⟩] []) (.cond (.tmp 49) .skip (.exit 0))) (.seq (.block 1 (.seq (.reg [
  ⟨(some 52), none, .fieldAddr 5 35 (.tmp 1)⟩,
  ⟨(some 53), none, .load 1 false (.tmp 52)⟩,
  ⟨(some 54), none, .mov (.tmp 4)⟩,
  ⟨(some 55), none, .idxAddr none 2 (.tmp 53) (.tmp 54)⟩,
  ⟨(some 56), none, .fieldAddr 0 0 (.tmp 55)⟩,
  ⟨(some 57), none, .load 1 false (.tmp 56)⟩,
  ⟨(some 5), none, .mov (.tmp 57)⟩] []) (.seq (.seq (.reg [
  ⟨(some 58), none, .mov (.tmp 5)⟩,
  ⟨(some 59), none, .bin .neq (.tmp 58) (.cst (LV.int .i64 0))⟩,
  ⟨(some 60), none, .mov (.tmp 59)⟩,
  ⟨(some 61), (some (60, true)), .mov (.tmp 5)⟩,
  ⟨(some 62), (some (60, true)), .bin .neq (.tmp 61) (.cst (LV.int .i64 43))⟩,
  ⟨(some 63), none, .pick (.tmp 60) (.tmp 62) (.cst (LV.bool false))⟩,
  ⟨(some 64), none, .mov (.tmp 63)⟩,
  ⟨(some 65), (some (64, true)), .mov (.tmp 5)⟩,
  ⟨(some 66), (some (64, true)), .bin .neq (.tmp 65) (.cst (LV.int .i64 60))⟩,
  ⟨(some 67), none, .pick (.tmp 64) (.tmp 66) (.cst (LV.bool false))⟩] []) (.cond (.tmp 67) (.seq (.reg [
  ⟨(some 2), none, .mov (.cst (LV.int .i64 10))⟩] []) .ret) .skip)) (.reg [
  ⟨(some 68), none, .mov (.tmp 3)⟩,
  ⟨(some 69), none, .bin .add (.tmp 68) (.cst (LV.int .i64 2))⟩,
  ⟨(some 70), none, .fieldAddr 5 35 (.tmp 1)⟩,
  ⟨(some 71), none, .load 1 false (.tmp 70)⟩,
  ⟨(some 72), none, .mov (.tmp 4)⟩,
  ⟨(some 73), none, .idxAddr none 2 (.tmp 71) (.tmp 72)⟩,
  ⟨(some 74), none, .fieldAddr 1 1 (.tmp 73)⟩,
  ⟨(some 75), none, .load 1 false (.tmp 74)⟩,
  ⟨(some 76), none, .len true (.tmp 75)⟩,
  ⟨(some 77), none, .bin .add (.tmp 69) (.tmp 76)⟩,
  ⟨(some 3), none, .mov (.tmp 77)⟩] [])))) (.reg [
  ⟨(some 50), none, .mov (.tmp 4)⟩,
  ⟨(some 51), none, .bin .add (.tmp 50) (.cst (LV.int .i64 1))⟩,
  ⟨(some 4), none, .mov (.tmp 51)⟩] [])))))) (.seq (.seq (.reg [
  ⟨(some 78), none, .fieldAddr 6 36 (.tmp 1)⟩,
  ⟨(some 79), none, .load 1 false (.tmp 78)⟩,
  ⟨(some 80), none, .un .not (.tmp 79)⟩,
  ⟨(some 81), none, .mov (.tmp 80)⟩,
  ⟨(some 82), (some (81, true)), .fieldAddr 10 40 (.tmp 1)⟩,
  ⟨(some 83), (some (81, true)), .load 1 false (.tmp 82)⟩,
  ⟨(some 84), (some (81, true)), .bin .eql (.tmp 83) (.cst (LV.int .i64 0))⟩,
  ⟨(some 85), (some (81, true)), .mov (.tmp 84)⟩,
  ⟨(some 86), (some (85, false)), .fieldAddr 10 40 (.tmp 1)⟩,
  ⟨(some 87), (some (85, false)), .load 1 false (.tmp 86)⟩,
  ⟨(some 88), (some (85, false)), .bin .eql (.tmp 87) (.cst (LV.int .i64 43))⟩,
  ⟨(some 89), (some (81, true)), .pick (.tmp 85) (.cst (LV.bool true)) (.tmp 88)⟩,
  ⟨(some 90), (some (81, true)), .mov (.tmp 89)⟩,
  ⟨(some 91), (some (90, false)), .fieldAddr 10 40 (.tmp 1)⟩,
  ⟨(some 92), (some (90, false)), .load 1 false (.tmp 91)⟩,
  ⟨(some 93), (some (90, false)), .bin .eql (.tmp 92) (.cst (LV.int .i64 44))⟩,
  ⟨(some 94), (some (81, true)), .pick (.tmp 90) (.cst (LV.bool true)) (.tmp 93)⟩,
  ⟨(some 95), (some (81, true)), .mov (.tmp 94)⟩,
  ⟨(some 96), (some (95, false)), .fieldAddr 10 40 (.tmp 1)⟩,
  ⟨(some 97), (some (95, false)), .load 1 false (.tmp 96)⟩,
  ⟨(some 98), (some (95, false)), .bin .eql (.tmp 97) (.cst (LV.int .i64 60))⟩,
  ⟨(some 99), (some (81, true)), .pick (.tmp 95) (.cst (LV.bool true)) (.tmp 98)⟩,
  ⟨(some 100), none, .pick (.tmp 81) (.tmp 99) (.cst (LV.bool false))⟩] []) (.cond (.tmp 100) (.seq (.reg [
  ⟨(some 2), none, .mov (.cst (LV.int .i64 10))⟩] []) .ret) .skip)) (.seq (.seq (.reg [
  ⟨(some 6), none, .mov (.cst (LV.int .i64 0))⟩] []) (.block 2 (.loop [2, 6] [101, 102, 103, 104, 105, 108, 109, 110, 111, 112, 113, 114, 115, 7, 116, 117, 118, 119, 120, 121, 122, 123, 124, 125, 126, 127, 128, 129, 130, 131, 132, 133, 134, 135, 136, 137, 138, 139, 106, 107] (.seq (.seq (.reg [
  ⟨(some 101), none, .mov (.tmp 6)⟩,
  ⟨(some 102), none, .fieldAddr 5 35 (.tmp 1)⟩,
  ⟨(some 103), none, .load 1 false (.tmp 102)⟩,
  ⟨(some 104), none, .len false (.tmp 103)⟩,
  ⟨(some 105), none, .bin .lss (.tmp 101) (.tmp 104)⟩] []) (.cond (.tmp 105) .skip (.exit 2))) (.seq (.block 3 (.seq (.reg [
  ⟨(some 108), none, .fieldAddr 5 35 (.tmp 1)⟩,
  ⟨(some 109), none, .load 1 false (.tmp 108)⟩,
  ⟨(some 110), none, .mov (.tmp 6)⟩,
  ⟨(some 111), none, .idxAddr none 2 (.tmp 109) (.tmp 110)⟩,
  ⟨(some 112), none, .fieldAddr 1 1 (.tmp 111)⟩,
  ⟨(some 113), none, .load 1 false (.tmp 112)⟩,
  ⟨(some 114), none, .len true (.tmp 113)⟩,
  ⟨(some 115), none, .bin .add (.tmp 114) (.cst (LV.int .i64 2))⟩,
  ⟨(some 7), none, .mov (.tmp 115)⟩] []) (.seq (.reg [
  ⟨(some 116), none, .mov (.tmp 7)⟩,
  ⟨(some 117), none, .bin .lss (.tmp 116) (.cst (LV.int .i64 8))⟩,
  ⟨(some 118), none, .mov (.tmp 117)⟩,
  ⟨(some 119), (some (118, false)), .mov (.tmp 7)⟩,
  ⟨(some 120), (some (118, false)), .bin .rem (.tmp 119) (.cst (LV.int .i64 8))⟩,
  ⟨(some 121), (some (118, false)), .bin .neq (.tmp 120) (.cst (LV.int .i64 0))⟩,
  ⟨(some 122), none, .pick (.tmp 118) (.cst (LV.bool true)) (.tmp 121)⟩,
  ⟨(some 123), none, .mov (.tmp 122)⟩,
  ⟨(some 124), (some (123, false)), .mov (.tmp 7)⟩,
  ⟨(some 125), (some (123, false)), .bin .gtr (.tmp 124) (.cst (LV.int .i64 2048))⟩,
  ⟨(some 126), none, .pick (.tmp 123) (.cst (LV.bool true)) (.tmp 125)⟩,
  ⟨(some 127), none, .mov (.tmp 126)⟩,
  ⟨(some 128), (some (127, false)), .fieldAddr 5 35 (.tmp 1)⟩,
  ⟨(some 129), (some (127, false)), .load 1 false (.tmp 128)⟩,
  ⟨(some 130), (some (127, false)), .mov (.tmp 6)⟩,
  ⟨(some 131), (some (127, false)), .idxAddr none 2 (.tmp 129) (.tmp 130)⟩,
  ⟨(some 132), (some (127, false)), .fieldAddr 0 0 (.tmp 131)⟩,
  ⟨(some 133), (some (127, false)), .load 1 false (.tmp 132)⟩,
  ⟨(some 134), (some (127, false)), .bin .eql (.tmp 133) (.cst (LV.int .i64 0))⟩,
  ⟨(some 135), (some (127, false)), .mov (.tmp 134)⟩,
  ⟨(some 136), (some (135, true)), .mov (.tmp 6)⟩,
  ⟨(some 137), (some (135, true)), .bin .gtr (.tmp 136) (.cst (LV.int .i64 0))⟩,
  ⟨(some 138), (some (127, false)), .pick (.tmp 135) (.tmp 137) (.cst (LV.bool false))⟩,
  ⟨(some 139), none, .pick (.tmp 127) (.cst (LV.bool true)) (.tmp 138)⟩] []) (.cond (.tmp 139) (.seq (.reg [
  ⟨(some 2), none, .mov (.cst (LV.int .i64 8))⟩] []) .ret) .skip)))) (.reg [
  ⟨(some 106), none, .mov (.tmp 6)⟩,
  ⟨(some 107), none, .bin .add (.tmp 106) (.cst (LV.int .i64 1))⟩,
  ⟨(some 6), none, .mov (.tmp 107)⟩] [])))))) (.seq (.seq (.reg [
  ⟨(some 140), none, .fieldAddr 6 36 (.tmp 1)⟩,
  ⟨(some 141), none, .load 1 false (.tmp 140)⟩,
  ⟨(some 142), none, .mov (.tmp 141)⟩,
  ⟨(some 143), (some (142, true)), .fieldAddr 9 39 (.tmp 1)⟩,
  ⟨(some 144), (some (142, true)), .load 1 false (.tmp 143)⟩,
  ⟨(some 145), none, .pick (.tmp 142) (.tmp 144) (.cst (LV.bool false))⟩,
  ⟨(some 146), none, .mov (.tmp 145)⟩,
  ⟨(some 147), (some (146, true)), .fieldAddr 11 41 (.tmp 1)⟩,
  ⟨(some 148), (some (146, true)), .load 1 false (.tmp 147)⟩,
  ⟨(some 149), (some (146, true)), .len true (.tmp 148)⟩,
  ⟨(some 150), (some (146, true)), .bin .eql (.tmp 149) (.cst (LV.int .i64 0))⟩,
  ⟨(some 151), (some (146, true)), .mov (.tmp 150)⟩,
  ⟨(some 152), (some (151, false)), .fieldAddr 11 41 (.tmp 1)⟩,
  ⟨(some 153), (some (151, false)), .load 1 false (.tmp 152)⟩,
  ⟨(some 154), (some (151, false)), .len true (.tmp 153)⟩,
  ⟨(some 155), (some (151, false)), .bin .rem (.tmp 154) (.cst (LV.int .i64 8))⟩,
  ⟨(some 156), (some (151, false)), .bin .neq (.tmp 155) (.cst (LV.int .i64 0))⟩,
  ⟨(some 157), (some (146, true)), .pick (.tmp 151) (.cst (LV.bool true)) (.tmp 156)⟩,
  ⟨(some 158), none, .pick (.tmp 146) (.tmp 157) (.cst (LV.bool false))⟩] []) (.cond (.tmp 158) (.seq (.reg [
  ⟨(some 2), none, .mov (.cst (LV.int .i64 8))⟩] []) .ret) .skip)) (.seq (.seq (.reg [
  ⟨(some 159), none, .fieldAddr 6 36 (.tmp 1)⟩,
  ⟨(some 160), none, .load 1 false (.tmp 159)⟩,
  ⟨(some 161), none, .un .not (.tmp 160)⟩,
  ⟨(some 162), none, .mov (.tmp 161)⟩,
  ⟨(some 163), (some (162, true)), .fieldAddr 7 37 (.tmp 1)⟩,
  ⟨(some 164), (some (162, true)), .load 1 false (.tmp 163)⟩,
  ⟨(some 165), (some (162, true)), .bin .neq (.tmp 164) (.cst (LV.int .u32 0))⟩,
  ⟨(some 166), (some (162, true)), .mov (.tmp 165)⟩,
  ⟨(some 167), (some (166, false)), .fieldAddr 8 38 (.tmp 1)⟩,
  ⟨(some 168), (some (166, false)), .load 1 false (.tmp 167)⟩,
  ⟨(some 169), (some (166, false)), .bin .neq (.tmp 168) (.cst (LV.int .i64 0))⟩,
  ⟨(some 170), (some (162, true)), .pick (.tmp 166) (.cst (LV.bool true)) (.tmp 169)⟩,
  ⟨(some 171), (some (162, true)), .mov (.tmp 170)⟩,
  ⟨(some 172), (some (171, false)), .fieldAddr 9 39 (.tmp 1)⟩,
  ⟨(some 173), (some (171, false)), .load 1 false (.tmp 172)⟩,
  ⟨(some 174), (some (162, true)), .pick (.tmp 171) (.cst (LV.bool true)) (.tmp 173)⟩,
  ⟨(some 175), none, .pick (.tmp 162) (.tmp 174) (.cst (LV.bool false))⟩] []) (.cond (.tmp 175) (.seq (.reg [
  ⟨(some 2), none, .mov (.cst (LV.int .i64 8))⟩] []) .ret) .skip)) (.seq (.seq (.reg [
  ⟨(some 176), none, .fieldAddr 6 36 (.tmp 1)⟩,
  ⟨(some 177), none, .load 1 false (.tmp 176)⟩] []) (.cond (.tmp 177) (.reg [
  ⟨(some 178), none, .mov (.tmp 3)⟩,
  ⟨(some 179), none, .bin .add (.tmp 178) (.cst (LV.int .i64 8))⟩,
  ⟨(some 3), none, .mov (.tmp 179)⟩] []) .skip)) (.seq (.seq (.reg [
  ⟨(some 180), none, .fieldAddr 5 35 (.tmp 1)⟩,
  ⟨(some 181), none, .load 1 false (.tmp 180)⟩,
  ⟨(some 182), none, .len false (.tmp 181)⟩,
  ⟨(some 183), none, .bin .gtr (.tmp 182) (.cst (LV.int .i64 8))⟩,
  ⟨(some 184), none, .mov (.tmp 183)⟩,
  ⟨(some 185), (some (184, false)), .fieldAddr 8 38 (.tmp 1)⟩,
  ⟨(some 186), (some (184, false)), .load 1 false (.tmp 185)⟩,
  ⟨(some 187), (some (184, false)), .fieldAddr 11 41 (.tmp 1)⟩,
  ⟨(some 188), (some (184, false)), .load 1 false (.tmp 187)⟩,
  ⟨(some 189), (some (184, false)), .len true (.tmp 188)⟩,
  ⟨(some 190), (some (184, false)), .bin .add (.tmp 186) (.tmp 189)⟩,
  ⟨(some 191), (some (184, false)), .bin .gtr (.tmp 190) (.cst (LV.int .i64 65535))⟩,
  ⟨(some 192), none, .pick (.tmp 184) (.cst (LV.bool true)) (.tmp 191)⟩,
  ⟨(some 193), none, .mov (.tmp 192)⟩,
  ⟨(some 194), (some (193, false)), .mov (.tmp 3)⟩,
  ⟨(some 195), (some (193, false)), .bin .gtr (.tmp 194) (.cst (LV.int .i64 65535))⟩,
  ⟨(some 196), none, .pick (.tmp 193) (.cst (LV.bool true)) (.tmp 195)⟩] []) (.cond (.tmp 196) (.seq (.reg [
  ⟨(some 2), none, .mov (.cst (LV.int .i64 3))⟩] []) .ret) .skip)) (.seq (.reg [
  ⟨(some 2), none, .mov (.cst (LV.int .i64 0))⟩] []) .ret))))))))))), [.tmp 2]⟩
/-- interpreter/interpreterref04.put -/
def c_interpreterref04_put : MFn := ⟨2, 8, (.seq (.reg [
  ⟨(some 4), none, .mov (.cst (LV.str []))⟩] []) (.seq (.reg [
  ⟨(some 5), none, .mov (.tmp 0)⟩,
  ⟨(some 6), none, .mov (.tmp 1)⟩,
  ⟨(some 7), none, .call id_interpreterref01_Put [(.tmp 5), (.tmp 6)]⟩,
  ⟨(some 4), none, .mov (.tmp 7)⟩] []) .ret)), [.tmp 4]⟩
/-- (*interpreter/num.Reader).number -/
def c_num_Reader_number : MFn := ⟨2, 31, (.seq (.reg [
  ⟨(some 4), none, .mov (.cst (LV.int .i64 0))⟩,
  ⟨(some 5), none, .mov (.cst LV.nili)⟩] []) (.seq (.reg [
  ⟨(some 11), none, .mov (.tmp 0)⟩,
  ⟨(some 12), none, .mov (.tmp 1)⟩,
  ⟨(some 13), none, .callRw id_num_Reader_Text [(.tmp 11), (.tmp 12)]⟩,
  ⟨(some 10), none, .mov (.tmp 13)⟩,
  ⟨(some 14), none, .extract (.tmp 10) 0⟩,
  ⟨(some 15), none, .extract (.tmp 10) 1⟩,
  ⟨(some 6), none, .mov (.tmp 14)⟩,
  ⟨(some 7), none, .mov (.tmp 15)⟩] []) (.seq (.reg [
  ⟨(some 8), none, .mov (.cst (LV.int .i64 0))⟩] []) (.seq (.seq (.reg [
  ⟨(some 16), none, .mov (.tmp 6)⟩,
  ⟨(some 17), none, .len true (.tmp 16)⟩,
  ⟨(some 18), none, .mov (.cst (LV.int .i64 0))⟩] []) (.block 0 (.loop [8, 18] [19, 20, 9, 21, 22, 23, 24, 25, 26, 27, 28] (.seq (.reg [
  ⟨(some 19), none, .bin .lss (.tmp 18) (.tmp 17)⟩] []) (.seq (.cond (.tmp 19) .skip (.exit 0)) (.seq (.block 1 (.seq (.reg [
  ⟨(some 20), none, .mov (.tmp 18)⟩,
  ⟨(some 9), none, .mov (.tmp 20)⟩] []) (.reg [
  ⟨(some 21), none, .mov (.tmp 8)⟩,
  ⟨(some 22), none, .bin .shl (.tmp 21) (.cst (LV.int .u64 8))⟩,
  ⟨(some 23), none, .mov (.tmp 6)⟩,
  ⟨(some 24), none, .mov (.tmp 9)⟩,
  ⟨(some 25), none, .idxStr (.tmp 23) (.tmp 24)⟩,
  ⟨(some 26), none, .conv .i64 (.tmp 25)⟩,
  ⟨(some 27), none, .bin .or (.tmp 22) (.tmp 26)⟩,
  ⟨(some 8), none, .mov (.tmp 27)⟩] []))) (.reg [
  ⟨(some 28), none, .bin .add (.tmp 18) (.cst (LV.int .i64 1))⟩,
  ⟨(some 18), none, .mov (.tmp 28)⟩] []))))))) (.seq (.reg [
  ⟨(some 29), none, .mov (.tmp 8)⟩,
  ⟨(some 30), none, .mov (.tmp 7)⟩,
  ⟨(some 4), none, .mov (.tmp 29)⟩,
  ⟨(some 5), none, .mov (.tmp 30)⟩] []) .ret))))), [.tmp 4, .tmp 5]⟩
/-- (*interpreter/interpreterref01.Reader).Number -/
def c_interpreterref01_Reader_Number : MFn := ⟨2, 31, (.seq (.reg [
  ⟨(some 4), none, .mov (.cst (LV.int .i64 0))⟩,
  ⟨(some 5), none, .mov (.cst (LV.int .i64 0))⟩] []) (.seq (.reg [
  ⟨(some 11), none, .mov (.tmp 0)⟩,
  ⟨(some 12), none, .mov (.tmp 1)⟩,
  ⟨(some 13), none, .callRw id_interpreterref01_Reader_Text [(.tmp 11), (.tmp 12)]⟩,
  ⟨(some 10), none, .mov (.tmp 13)⟩,
  ⟨(some 14), none, .extract (.tmp 10) 0⟩,
  ⟨(some 15), none, .extract (.tmp 10) 1⟩,
  ⟨(some 6), none, .mov (.tmp 14)⟩,
  ⟨(some 7), none, .mov (.tmp 15)⟩] []) (.seq (.reg [
  ⟨(some 8), none, .mov (.cst (LV.int .i64 0))⟩] []) (.seq (.seq (.reg [
  ⟨(some 9), none, .mov (.cst (LV.int .i64 0))⟩] []) (.block 0 (.loop [8, 9] [16, 17, 18, 19, 22, 23, 24, 25, 26, 27, 28, 20, 21] (.seq (.seq (.reg [
  ⟨(some 16), none, .mov (.tmp 9)⟩,
  ⟨(some 17), none, .mov (.tmp 6)⟩,
  ⟨(some 18), none, .len true (.tmp 17)⟩,
  ⟨(some 19), none, .bin .lss (.tmp 16) (.tmp 18)⟩] []) (.cond (.tmp 19) .skip (.exit 0))) (.seq (.block 1 (.reg [
  ⟨(some 22), none, .mov (.tmp 8)⟩,
  ⟨(some 23), none, .bin .mul (.tmp 22) (.cst (LV.int .i64 256))⟩,
  ⟨(some 24), none, .mov (.tmp 6)⟩,
  ⟨(some 25), none, .mov (.tmp 9)⟩,
  ⟨(some 26), none, .idxStr (.tmp 24) (.tmp 25)⟩,
  ⟨(some 27), none, .conv .i64 (.tmp 26)⟩,
  ⟨(some 28), none, .bin .add (.tmp 23) (.tmp 27)⟩,
  ⟨(some 8), none, .mov (.tmp 28)⟩] [])) (.reg [
  ⟨(some 20), none, .mov (.tmp 9)⟩,
  ⟨(some 21), none, .bin .add (.tmp 20) (.cst (LV.int .i64 1))⟩,
  ⟨(some 9), none, .mov (.tmp 21)⟩] [])))))) (.seq (.reg [
  ⟨(some 29), none, .mov (.tmp 8)⟩,
  ⟨(some 30), none, .mov (.tmp 7)⟩,
  ⟨(some 4), none, .mov (.tmp 29)⟩,
  ⟨(some 5), none, .mov (.tmp 30)⟩] []) .ret))))), [.tmp 4, .tmp 5]⟩
/-- interpreter/ip6.within -/
def c_ip6_within : MFn := ⟨2, 12, (.seq (.reg [
  ⟨(some 4), none, .mov (.cst (LV.bool false))⟩] []) (.seq (.reg [
  ⟨(some 5), none, .mov (.tmp 0)⟩,
  ⟨(some 6), none, .bin .geq (.tmp 5) (.cst (LV.int .i64 0))⟩,
  ⟨(some 7), none, .mov (.tmp 6)⟩,
  ⟨(some 8), (some (7, true)), .mov (.tmp 0)⟩,
  ⟨(some 9), (some (7, true)), .mov (.tmp 1)⟩,
  ⟨(some 10), (some (7, true)), .bin .leq (.tmp 8) (.tmp 9)⟩,
  ⟨(some 11), none, .pick (.tmp 7) (.tmp 10) (.cst (LV.bool false))⟩,
  ⟨(some 4), none, .mov (.tmp 11)⟩] []) .ret)), [.tmp 4]⟩
/-- interpreter/ip6.kinds -/
def c_ip6_kinds : MFn := ⟨1, 30, (.seq (.reg [
  ⟨(some 1), none, .box (.tmp 0)⟩,
  ⟨(some 2), none, .mov (.cst (LV.bool false))⟩] []) (.seq (.seq (.reg [
  ⟨(some 5), none, .fieldAddr 5 35 (.tmp 1)⟩,
  ⟨(some 6), none, .load 1 false (.tmp 5)⟩,
  ⟨(some 7), none, .len false (.tmp 6)⟩,
  ⟨(some 8), none, .mov (.cst (LV.int .i64 0))⟩] []) (.block 0 (.loop [2, 8] [9, 10, 11, 4, 12, 13, 14, 15, 16] (.seq (.reg [
  ⟨(some 9), none, .bin .lss (.tmp 8) (.tmp 7)⟩] []) (.seq (.cond (.tmp 9) .skip (.exit 0)) (.seq (.block 1 (.seq (.reg [
  ⟨(some 10), none, .idxAddr none 2 (.tmp 6) (.tmp 8)⟩,
  ⟨(some 11), none, .load 2 true (.tmp 10)⟩,
  ⟨(some 4), none, .alloc (LV.agg [(LV.int .i64 0), (LV.str [])])⟩,
  ⟨none, none, .store 2 true (.tmp 4) (.tmp 11)⟩] []) (.seq (.reg [
  ⟨(some 12), none, .fieldAddr 0 0 (.tmp 4)⟩,
  ⟨(some 13), none, .load 1 false (.tmp 12)⟩,
  ⟨(some 14), none, .call id_ip6_extends [(.tmp 13)]⟩,
  ⟨(some 15), none, .un .not (.tmp 14)⟩] []) (.cond (.tmp 15) (.seq (.reg [
  ⟨(some 2), none, .mov (.cst (LV.bool false))⟩] []) .ret) .skip)))) (.reg [
  ⟨(some 16), none, .bin .add (.tmp 8) (.cst (LV.int .i64 1))⟩,
  ⟨(some 8), none, .mov (.tmp 16)⟩] []))))))) (.seq (.reg [
  ⟨(some 17), none, .fieldAddr 6 36 (.tmp 1)⟩,
  ⟨(some 18), none, .load 1 false (.tmp 17)⟩,
  ⟨(some 19), none, .mov (.tmp 18)⟩,
  ⟨(some 20), (some (19, false)), .fieldAddr 10 40 (.tmp 1)⟩,
  ⟨(some 21), (some (19, false)), .load 1 false (.tmp 20)⟩,
  ⟨(some 22), (some (19, false)), .call id_ip6_extends [(.tmp 21)]⟩,
  ⟨(some 23), (some (19, false)), .un .not (.tmp 22)⟩,
  ⟨(some 24), (some (19, false)), .mov (.tmp 23)⟩,
  ⟨(some 25), (some (24, true)), .fieldAddr 10 40 (.tmp 1)⟩,
  ⟨(some 26), (some (24, true)), .load 1 false (.tmp 25)⟩,
  ⟨(some 27), (some (24, true)), .bin .neq (.tmp 26) (.cst (LV.int .i64 44))⟩,
  ⟨(some 28), (some (19, false)), .pick (.tmp 24) (.tmp 27) (.cst (LV.bool false))⟩,
  ⟨(some 29), none, .pick (.tmp 19) (.cst (LV.bool true)) (.tmp 28)⟩,
  ⟨(some 2), none, .mov (.tmp 29)⟩] []) .ret))), [.tmp 2]⟩
/-- interpreter/ip6.formed -/
def c_ip6_formed : MFn := ⟨1, 51, (.seq (.reg [
  ⟨(some 1), none, .box (.tmp 0)⟩,
  ⟨(some 2), none, .mov (.cst (LV.bool false))⟩] []) (.seq (.seq (.reg [
  ⟨(some 5), none, .fieldAddr 5 35 (.tmp 1)⟩,
  ⟨(some 6), none, .load 1 false (.tmp 5)⟩,
  ⟨(some 7), none, .len false (.tmp 6)⟩,
  ⟨(some 8), none, .mov (.cst (LV.int .i64 0))⟩] []) (.block 0 (.loop [2, 8] [9, 10, 11, 12, 4, 3, 13, 14, 15, 16, 17, 18, 19, 20, 21, 22, 23, 24, 25, 26, 27, 28, 29, 30, 31, 32, 33] (.seq (.reg [
  ⟨(some 9), none, .bin .lss (.tmp 8) (.tmp 7)⟩] []) (.seq (.cond (.tmp 9) .skip (.exit 0)) (.seq (.block 1 (.seq (.reg [
  ⟨(some 10), none, .mov (.tmp 8)⟩,
  ⟨(some 11), none, .idxAddr none 2 (.tmp 6) (.tmp 8)⟩,
  ⟨(some 12), none, .load 2 true (.tmp 11)⟩,
  ⟨(some 4), none, .alloc (LV.agg [(LV.int .i64 0), (LV.str [])])⟩,
  ⟨(some 3), none, .mov (.tmp 10)⟩,
  ⟨none, none, .store 2 true (.tmp 4) (.tmp 12)⟩] []) (.seq (.reg [
  ⟨(some 13), none, .fieldAddr 1 1 (.tmp 4)⟩,
  ⟨(some 14), none, .load 1 false (.tmp 13)⟩,
  ⟨(some 15), none, .len true (.tmp 14)⟩,
  ⟨(some 16), none, .bin .rem (.tmp 15) (.cst (LV.int .i64 8))⟩,
  ⟨(some 17), none, .bin .neq (.tmp 16) (.cst (LV.int .i64 6))⟩,
  ⟨(some 18), none, .mov (.tmp 17)⟩,
  ⟨(some 19), (some (18, false)), .fieldAddr 1 1 (.tmp 4)⟩,
  ⟨(some 20), (some (18, false)), .load 1 false (.tmp 19)⟩,
  ⟨(some 21), (some (18, false)), .len true (.tmp 20)⟩,
  ⟨(some 22), (some (18, false)), .bin .gtr (.tmp 21) (.cst (LV.int .i64 2046))⟩,
  ⟨(some 23), none, .pick (.tmp 18) (.cst (LV.bool true)) (.tmp 22)⟩,
  ⟨(some 24), none, .mov (.tmp 23)⟩,
  ⟨(some 25), (some (24, false)), .fieldAddr 0 0 (.tmp 4)⟩,
  ⟨(some 26), (some (24, false)), .load 1 false (.tmp 25)⟩,
  ⟨(some 27), (some (24, false)), .bin .eql (.tmp 26) (.cst (LV.int .i64 0))⟩,
  ⟨(some 28), (some (24, false)), .mov (.tmp 27)⟩,
  ⟨(some 29), (some (28, true)), .mov (.tmp 3)⟩,
  ⟨(some 30), (some (28, true)), .bin .gtr (.tmp 29) (.cst (LV.int .i64 0))⟩,
  ⟨(some 31), (some (24, false)), .pick (.tmp 28) (.tmp 30) (.cst (LV.bool false))⟩,
  ⟨(some 32), none, .pick (.tmp 24) (.cst (LV.bool true)) (.tmp 31)⟩] []) (.cond (.tmp 32) (.seq (.reg [
  ⟨(some 2), none, .mov (.cst (LV.bool false))⟩] []) .ret) .skip)))) (.reg [
  ⟨(some 33), none, .bin .add (.tmp 8) (.cst (LV.int .i64 1))⟩,
  ⟨(some 8), none, .mov (.tmp 33)⟩] []))))))) (.seq (.seq (.reg [
  ⟨(some 34), none, .fieldAddr 6 36 (.tmp 1)⟩,
  ⟨(some 35), none, .load 1 false (.tmp 34)⟩] []) (.cond (.tmp 35) (.seq (.reg [
  ⟨(some 36), none, .load 42 true (.tmp 1)⟩,
  ⟨(some 37), none, .call id_ip6_pieced [(.tmp 36)]⟩,
  ⟨(some 2), none, .mov (.tmp 37)⟩] []) .ret) .skip)) (.seq (.reg [
  ⟨(some 38), none, .fieldAddr 7 37 (.tmp 1)⟩,
  ⟨(some 39), none, .load 1 false (.tmp 38)⟩,
  ⟨(some 40), none, .bin .eql (.tmp 39) (.cst (LV.int .u32 0))⟩,
  ⟨(some 41), none, .mov (.tmp 40)⟩,
  ⟨(some 42), (some (41, true)), .fieldAddr 8 38 (.tmp 1)⟩,
  ⟨(some 43), (some (41, true)), .load 1 false (.tmp 42)⟩,
  ⟨(some 44), (some (41, true)), .bin .eql (.tmp 43) (.cst (LV.int .i64 0))⟩,
  ⟨(some 45), none, .pick (.tmp 41) (.tmp 44) (.cst (LV.bool false))⟩,
  ⟨(some 46), none, .mov (.tmp 45)⟩,
  ⟨(some 47), (some (46, true)), .fieldAddr 9 39 (.tmp 1)⟩,
  ⟨(some 48), (some (46, true)), .load 1 false (.tmp 47)⟩,
  ⟨(some 49), (some (46, true)), .un .not (.tmp 48)⟩,
  ⟨(some 50), none, .pick (.tmp 46) (.tmp 49) (.cst (LV.bool false))⟩,
  ⟨(some 2), none, .mov (.tmp 50)⟩] []) .ret)))), [.tmp 2]⟩
/-- interpreter/ip6.size -/
def c_ip6_size : MFn := ⟨1, 28, (.seq (.reg [
  ⟨(some 1), none, .box (.tmp 0)⟩,
  ⟨(some 2), none, .mov (.cst (LV.int .i64 0))⟩] []) (.seq (.reg [
  ⟨(some 6), none, .fieldAddr 11 41 (.tmp 1)⟩,
  ⟨(some 7), none, .load 1 false (.tmp 6)⟩,
  ⟨(some 8), none, .len true (.tmp 7)⟩,
  ⟨(some 3), none, .mov (.tmp 8)⟩] []) (.seq (.seq (.reg [
  ⟨(some 9), none, .fieldAddr 6 36 (.tmp 1)⟩,
  ⟨(some 10), none, .load 1 false (.tmp 9)⟩] []) (.cond (.tmp 10) (.reg [
  ⟨(some 11), none, .mov (.tmp 3)⟩,
  ⟨(some 12), none, .bin .add (.tmp 11) (.cst (LV.int .i64 8))⟩,
  ⟨(some 3), none, .mov (.tmp 12)⟩] []) .skip)) (.seq (.seq (.reg [
  ⟨(some 13), none, .fieldAddr 5 35 (.tmp 1)⟩,
  ⟨(some 14), none, .load 1 false (.tmp 13)⟩,
  ⟨(some 15), none, .len false (.tmp 14)⟩,
  ⟨(some 16), none, .mov (.cst (LV.int .i64 0))⟩] []) (.block 0 (.loop [3, 16] [17, 18, 19, 5, 20, 21, 22, 23, 24, 25, 26] (.seq (.reg [
  ⟨(some 17), none, .bin .lss (.tmp 16) (.tmp 15)⟩] []) (.seq (.cond (.tmp 17) .skip (.exit 0)) (.seq (.block 1 (.seq (.reg [
  ⟨(some 18), none, .idxAddr none 2 (.tmp 14) (.tmp 16)⟩,
  ⟨(some 19), none, .load 2 true (.tmp 18)⟩,
  ⟨(some 5), none, .alloc (LV.agg [(LV.int .i64 0), (LV.str [])])⟩,
  ⟨none, none, .store 2 true (.tmp 5) (.tmp 19)⟩] []) (.reg [
  ⟨(some 20), none, .mov (.tmp 3)⟩,
  ⟨(some 21), none, .fieldAddr 1 1 (.tmp 5)⟩,
  ⟨(some 22), none, .load 1 false (.tmp 21)⟩,
  ⟨(some 23), none, .len true (.tmp 22)⟩,
  ⟨(some 24), none, .bin .add (.tmp 23) (.cst (LV.int .i64 2))⟩,
  ⟨(some 25), none, .bin .add (.tmp 20) (.tmp 24)⟩,
  ⟨(some 3), none, .mov (.tmp 25)⟩] []))) (.reg [
  ⟨(some 26), none, .bin .add (.tmp 16) (.cst (LV.int .i64 1))⟩,
  ⟨(some 16), none, .mov (.tmp 26)⟩] []))))))) (.seq (.reg [
  ⟨(some 27), none, .mov (.tmp 3)⟩,
  ⟨(some 2), none, .mov (.tmp 27)⟩] []) .ret))))), [.tmp 2]⟩
/-- interpreter/num.Big -/
def c_num_Big : MFn := ⟨2, 55, (.seq (.reg [
  ⟨(some 4), none, .mov (.cst (LV.str []))⟩,
  ⟨(some 5), none, .mov (.cst LV.nili)⟩] []) (.seq (.block 0 (.seq (.reg [
  ⟨(some 9), none, .mov (.tmp 1)⟩,
  ⟨(some 10), none, .bin .neq (.tmp 9) (.cst (LV.int .i64 1))⟩,
  ⟨(some 11), none, .mov (.tmp 10)⟩,
  ⟨(some 12), (some (11, true)), .mov (.tmp 1)⟩,
  ⟨(some 13), (some (11, true)), .bin .neq (.tmp 12) (.cst (LV.int .i64 2))⟩,
  ⟨(some 14), none, .pick (.tmp 11) (.tmp 13) (.cst (LV.bool false))⟩,
  ⟨(some 15), none, .mov (.tmp 14)⟩,
  ⟨(some 16), (some (15, true)), .mov (.tmp 1)⟩,
  ⟨(some 17), (some (15, true)), .bin .neq (.tmp 16) (.cst (LV.int .i64 4))⟩,
  ⟨(some 18), none, .pick (.tmp 15) (.tmp 17) (.cst (LV.bool false))⟩,
  ⟨(some 8), none, .mov (.tmp 18)⟩] []) (.cond (.tmp 8) (.seq (.reg [
  ⟨(some 19), none, .build (LV.agg [(LV.int .i64 0), (LV.int .i64 0)]) [(0, (.cst (LV.int .i64 1)))]⟩,
  ⟨(some 20), none, .box (.tmp 19)⟩,
  ⟨(some 21), none, .mkIface ty_ptr_num_Fault (.tmp 20)⟩,
  ⟨(some 4), none, .mov (.cst (LV.str []))⟩,
  ⟨(some 5), none, .mov (.tmp 21)⟩] []) .ret) (.seq (.reg [
  ⟨(some 23), none, .mov (.tmp 0)⟩,
  ⟨(some 24), none, .bin .lss (.tmp 23) (.cst (LV.int .i64 0))⟩,
  ⟨(some 25), none, .mov (.tmp 24)⟩,
  ⟨(some 26), (some (25, false)), .mov (.tmp 0)⟩,
  ⟨(some 27), (some (25, false)), .mov (.tmp 1)⟩,
  ⟨(some 28), (some (25, false)), .bin .mul (.cst (LV.int .i64 8)) (.tmp 27)⟩,
  ⟨(some 29), (some (25, false)), .bin .shl (.cst (LV.int .i64 1)) (.tmp 28)⟩,
  ⟨(some 30), (some (25, false)), .bin .geq (.tmp 26) (.tmp 29)⟩,
  ⟨(some 31), none, .pick (.tmp 25) (.cst (LV.bool true)) (.tmp 30)⟩,
  ⟨(some 22), none, .mov (.tmp 31)⟩] []) (.cond (.tmp 22) (.seq (.reg [
  ⟨(some 32), none, .build (LV.agg [(LV.int .i64 0), (LV.int .i64 0)]) [(0, (.cst (LV.int .i64 13)))]⟩,
  ⟨(some 33), none, .box (.tmp 32)⟩,
  ⟨(some 34), none, .mkIface ty_ptr_num_Fault (.tmp 33)⟩,
  ⟨(some 4), none, .mov (.cst (LV.str []))⟩,
  ⟨(some 5), none, .mov (.tmp 34)⟩] []) .ret) .skip))))) (.seq (.reg [
  ⟨(some 35), none, .mov (.tmp 1)⟩,
  ⟨(some 36), none, .mkSl (.tmp 35) (.tmp 35)⟩,
  ⟨(some 6), none, .mov (.tmp 36)⟩] []) (.seq (.seq (.reg [
  ⟨(some 37), none, .mov (.tmp 1)⟩,
  ⟨(some 38), none, .mov (.cst (LV.int .i64 0))⟩] []) (.block 1 (.loop [38] [39, 40, 7, 41, 42, 43, 44, 45, 46, 47, 48, 49, 50, 51, 52] (.seq (.reg [
  ⟨(some 39), none, .bin .lss (.tmp 38) (.tmp 37)⟩] []) (.seq (.cond (.tmp 39) .skip (.exit 1)) (.seq (.block 2 (.seq (.reg [
  ⟨(some 40), none, .mov (.tmp 38)⟩,
  ⟨(some 7), none, .mov (.tmp 40)⟩] []) (.reg [
  ⟨(some 41), none, .mov (.tmp 6)⟩,
  ⟨(some 42), none, .mov (.tmp 7)⟩,
  ⟨(some 43), none, .mov (.tmp 0)⟩,
  ⟨(some 44), none, .mov (.tmp 1)⟩,
  ⟨(some 45), none, .bin .sub (.tmp 44) (.cst (LV.int .i64 1))⟩,
  ⟨(some 46), none, .mov (.tmp 7)⟩,
  ⟨(some 47), none, .bin .sub (.tmp 45) (.tmp 46)⟩,
  ⟨(some 48), none, .bin .mul (.cst (LV.int .i64 8)) (.tmp 47)⟩,
  ⟨(some 49), none, .bin .shr (.tmp 43) (.tmp 48)⟩,
  ⟨(some 50), none, .conv .u8 (.tmp 49)⟩,
  ⟨(some 51), none, .idxAddr none 1 (.tmp 41) (.tmp 42)⟩,
  ⟨none, none, .store 1 false (.tmp 51) (.tmp 50)⟩] []))) (.reg [
  ⟨(some 52), none, .bin .add (.tmp 38) (.cst (LV.int .i64 1))⟩,
  ⟨(some 38), none, .mov (.tmp 52)⟩] []))))))) (.seq (.reg [
  ⟨(some 53), none, .mov (.tmp 6)⟩,
  ⟨(some 54), none, .b2s (.tmp 53)⟩,
  ⟨(some 4), none, .mov (.tmp 54)⟩,
  ⟨(some 5), none, .mov (.cst LV.nili)⟩] []) .ret))))), [.tmp 4, .tmp 5]⟩
/-- interpreter/interpreterref04.bound -/
def c_interpreterref04_bound : MFn := ⟨2, 12, (.seq (.reg [
  ⟨(some 4), none, .mov (.cst (LV.bool false))⟩] []) (.seq (.reg [
  ⟨(some 5), none, .mov (.tmp 0)⟩,
  ⟨(some 6), none, .bin .geq (.tmp 5) (.cst (LV.int .i64 0))⟩,
  ⟨(some 7), none, .mov (.tmp 6)⟩,
  ⟨(some 8), (some (7, true)), .mov (.tmp 0)⟩,
  ⟨(some 9), (some (7, true)), .mov (.tmp 1)⟩,
  ⟨(some 10), (some (7, true)), .bin .leq (.tmp 8) (.tmp 9)⟩,
  ⟨(some 11), none, .pick (.tmp 7) (.tmp 10) (.cst (LV.bool false))⟩,
  ⟨(some 4), none, .mov (.tmp 11)⟩] []) .ret)), [.tmp 4]⟩
/-- interpreter/interpreterref01.Put -/
def c_interpreterref01_Put : MFn := ⟨2, 22, (.seq (.reg [
  ⟨(some 4), none, .mov (.cst (LV.str []))⟩] []) (.seq (.reg [
  ⟨(some 5), none, .mov (.cst (LV.str []))⟩] []) (.seq (.seq (.reg [
  ⟨(some 6), none, .mov (.cst (LV.int .i64 0))⟩] []) (.block 0 (.loop [5, 0, 6] [7, 8, 9, 12, 13, 14, 15, 16, 17, 18, 19, 20, 10, 11] (.seq (.seq (.reg [
  ⟨(some 7), none, .mov (.tmp 6)⟩,
  ⟨(some 8), none, .mov (.tmp 1)⟩,
  ⟨(some 9), none, .bin .lss (.tmp 7) (.tmp 8)⟩] []) (.cond (.tmp 9) .skip (.exit 0))) (.seq (.block 1 (.seq (.reg [
  ⟨(some 12), none, .mov (.tmp 0)⟩,
  ⟨(some 13), none, .bin .rem (.tmp 12) (.cst (LV.int .i64 256))⟩,
  ⟨(some 14), none, .conv .u8 (.tmp 13)⟩,
  ⟨(some 15), none, .bsl (LV.int .u8 0) 1 [(0, (.tmp 14))]⟩,
  ⟨(some 16), none, .b2s (.tmp 15)⟩,
  ⟨(some 17), none, .mov (.tmp 5)⟩,
  ⟨(some 18), none, .bin .add (.tmp 16) (.tmp 17)⟩,
  ⟨(some 5), none, .mov (.tmp 18)⟩] []) (.reg [
  ⟨(some 19), none, .mov (.tmp 0)⟩,
  ⟨(some 20), none, .bin .quo (.tmp 19) (.cst (LV.int .i64 256))⟩,
  ⟨(some 0), none, .mov (.tmp 20)⟩] []))) (.reg [
  ⟨(some 10), none, .mov (.tmp 6)⟩,
  ⟨(some 11), none, .bin .add (.tmp 10) (.cst (LV.int .i64 1))⟩,
  ⟨(some 6), none, .mov (.tmp 11)⟩] [])))))) (.seq (.reg [
  ⟨(some 21), none, .mov (.tmp 5)⟩,
  ⟨(some 4), none, .mov (.tmp 21)⟩] []) .ret)))), [.tmp 4]⟩
/-- (*interpreter/num.Reader).Text -/
def c_num_Reader_Text : MFn := ⟨2, 85, (.seq (.reg [
  ⟨(some 4), none, .mov (.cst (LV.str []))⟩,
  ⟨(some 5), none, .mov (.cst LV.nili)⟩] []) (.seq (.block 0 (.seq (.reg [
  ⟨(some 33), none, .mov (.tmp 0)⟩,
  ⟨(some 34), none, .eqNil 0 false (.tmp 33)⟩,
  ⟨(some 32), none, .mov (.tmp 34)⟩] []) (.cond (.tmp 32) (.seq (.reg [
  ⟨(some 35), none, .build (LV.agg [(LV.int .i64 0), (LV.int .i64 0)]) [(0, (.cst (LV.int .i64 2)))]⟩,
  ⟨(some 36), none, .box (.tmp 35)⟩,
  ⟨(some 37), none, .mkIface ty_ptr_num_Fault (.tmp 36)⟩,
  ⟨(some 4), none, .mov (.cst (LV.str []))⟩,
  ⟨(some 5), none, .mov (.tmp 37)⟩] []) .ret) (.seq (.reg [
  ⟨(some 39), none, .mov (.tmp 0)⟩,
  ⟨(some 40), none, .nilCheck (.tmp 39)⟩,
  ⟨(some 41), none, .fieldAddr 2 2 (.tmp 40)⟩,
  ⟨(some 42), none, .load 1 false (.tmp 41)⟩,
  ⟨(some 43), none, .eqNil 0 true (.tmp 42)⟩,
  ⟨(some 38), none, .mov (.tmp 43)⟩] []) (.cond (.tmp 38) .skip (.seq (.reg [
  ⟨(some 45), none, .mov (.tmp 1)⟩,
  ⟨(some 46), none, .bin .lss (.tmp 45) (.cst (LV.int .i64 0))⟩,
  ⟨(some 44), none, .mov (.tmp 46)⟩] []) (.cond (.tmp 44) (.reg [
  ⟨(some 47), none, .mov (.tmp 0)⟩,
  ⟨(some 48), none, .mov (.tmp 0)⟩,
  ⟨(some 49), none, .nilCheck (.tmp 48)⟩,
  ⟨(some 50), none, .fieldAddr 1 1 (.tmp 49)⟩,
  ⟨(some 51), none, .load 1 false (.tmp 50)⟩,
  ⟨(some 52), none, .build (LV.agg [(LV.int .i64 0), (LV.int .i64 0)]) [(0, (.cst (LV.int .i64 1))), (1, (.tmp 51))]⟩,
  ⟨(some 53), none, .box (.tmp 52)⟩,
  ⟨(some 54), none, .nilCheck (.tmp 47)⟩,
  ⟨(some 55), none, .fieldAddr 2 2 (.tmp 54)⟩,
  ⟨none, none, .store 1 false (.tmp 55) (.tmp 53)⟩] []) (.seq (.reg [
  ⟨(some 57), none, .mov (.tmp 1)⟩,
  ⟨(some 58), none, .mov (.tmp 0)⟩,
  ⟨(some 59), none, .nilCheck (.tmp 58)⟩,
  ⟨(some 60), none, .fieldAddr 0 0 (.tmp 59)⟩,
  ⟨(some 61), none, .load 1 false (.tmp 60)⟩,
  ⟨(some 62), none, .len true (.tmp 61)⟩,
  ⟨(some 63), none, .mov (.tmp 0)⟩,
  ⟨(some 64), none, .nilCheck (.tmp 63)⟩,
  ⟨(some 65), none, .fieldAddr 1 1 (.tmp 64)⟩,
  ⟨(some 66), none, .load 1 false (.tmp 65)⟩,
  ⟨(some 67), none, .bin .sub (.tmp 62) (.tmp 66)⟩,
  ⟨(some 68), none, .bin .gtr (.tmp 57) (.tmp 67)⟩,
  ⟨(some 56), none, .mov (.tmp 68)⟩] []) (.cond (.tmp 56) (.reg [
  ⟨(some 69), none, .mov (.tmp 0)⟩,
  ⟨(some 70), none, .mov (.tmp 0)⟩,
  ⟨(some 71), none, .nilCheck (.tmp 70)⟩,
  ⟨(some 72), none, .fieldAddr 1 1 (.tmp 71)⟩,
  ⟨(some 73), none, .load 1 false (.tmp 72)⟩,
  ⟨(some 74), none, .build (LV.agg [(LV.int .i64 0), (LV.int .i64 0)]) [(0, (.cst (LV.int .i64 7))), (1, (.tmp 73))]⟩,
  ⟨(some 75), none, .box (.tmp 74)⟩,
  ⟨(some 76), none, .nilCheck (.tmp 69)⟩,
  ⟨(some 77), none, .fieldAddr 2 2 (.tmp 76)⟩,
  ⟨none, none, .store 1 false (.tmp 77) (.tmp 75)⟩] []) (.seq (.reg [
  ⟨(some 8), none, .mov (.tmp 0)⟩,
  ⟨(some 9), none, .nilCheck (.tmp 8)⟩,
  ⟨(some 10), none, .fieldAddr 0 0 (.tmp 9)⟩,
  ⟨(some 11), none, .load 1 false (.tmp 10)⟩,
  ⟨(some 12), none, .mov (.tmp 0)⟩,
  ⟨(some 13), none, .nilCheck (.tmp 12)⟩,
  ⟨(some 14), none, .fieldAddr 1 1 (.tmp 13)⟩,
  ⟨(some 15), none, .load 1 false (.tmp 14)⟩,
  ⟨(some 16), none, .mov (.tmp 0)⟩,
  ⟨(some 17), none, .nilCheck (.tmp 16)⟩,
  ⟨(some 18), none, .fieldAddr 1 1 (.tmp 17)⟩,
  ⟨(some 19), none, .load 1 false (.tmp 18)⟩,
  ⟨(some 20), none, .mov (.tmp 1)⟩,
  ⟨(some 21), none, .bin .add (.tmp 19) (.tmp 20)⟩,
  ⟨(some 22), none, .slc 0 (.tmp 11) (some (.tmp 15)) (some (.tmp 21))⟩,
  ⟨(some 6), none, .mov (.tmp 22)⟩] []) (.seq (.reg [
  ⟨(some 23), none, .mov (.tmp 0)⟩,
  ⟨(some 24), none, .nilCheck (.tmp 23)⟩,
  ⟨(some 25), none, .fieldAddr 1 1 (.tmp 24)⟩,
  ⟨(some 26), none, .load 1 false (.tmp 25)⟩,
  ⟨(some 27), none, .mov (.tmp 1)⟩,
  ⟨(some 28), none, .bin .add (.tmp 26) (.tmp 27)⟩,
  ⟨(some 29), none, .nilCheck (.tmp 23)⟩,
  ⟨(some 30), none, .fieldAddr 1 1 (.tmp 29)⟩,
  ⟨none, none, .store 1 false (.tmp 30) (.tmp 28)⟩] []) (.seq (.reg [
  ⟨(some 31), none, .mov (.tmp 6)⟩,
  ⟨(some 4), none, .mov (.tmp 31)⟩,
  ⟨(some 5), none, .mov (.cst LV.nili)⟩] []) .ret)))))))))))) (.seq (.reg [
  ⟨(some 78), none, .mov (.tmp 0)⟩,
  ⟨(some 79), none, .nilCheck (.tmp 78)⟩,
  ⟨(some 80), none, .fieldAddr 2 2 (.tmp 79)⟩,
  ⟨(some 81), none, .load 1 false (.tmp 80)⟩,
  ⟨(some 82), none, .nilCheck (.tmp 81)⟩,
  ⟨(some 83), none, .load 2 true (.tmp 82)⟩,
  ⟨(some 7), none, .alloc (LV.agg [(LV.int .i64 0), (LV.int .i64 0)])⟩,
  ⟨none, none, .store 2 true (.tmp 7) (.tmp 83)⟩] []) (.seq (.reg [
  ⟨(some 84), none, .mkIface ty_ptr_num_Fault (.tmp 7)⟩,
  ⟨(some 4), none, .mov (.cst (LV.str []))⟩,
  ⟨(some 5), none, .mov (.tmp 84)⟩] []) .ret)))), [.tmp 4, .tmp 5]⟩
/-- (*interpreter/interpreterref01.Reader).Text -/
def c_interpreterref01_Reader_Text : MFn := ⟨2, 92, (.seq (.reg [
  ⟨(some 4), none, .mov (.cst (LV.str []))⟩,
  ⟨(some 5), none, .mov (.cst (LV.int .i64 0))⟩] []) (.seq (.seq (.reg [
  ⟨(some 8), none, .mov (.tmp 0)⟩,
  ⟨(some 9), none, .nilCheck (.tmp 8)⟩,
  ⟨(some 10), none, .fieldAddr 2 2 (.tmp 9)⟩,
  ⟨(some 11), none, .load 1 false (.tmp 10)⟩,
  ⟨(some 12), none, .bin .neq (.tmp 11) (.cst (LV.int .i64 0))⟩] []) (.cond (.tmp 12) (.seq (.reg [
  ⟨(some 13), none, .mov (.tmp 0)⟩,
  ⟨(some 14), none, .nilCheck (.tmp 13)⟩,
  ⟨(some 15), none, .fieldAddr 2 2 (.tmp 14)⟩,
  ⟨(some 16), none, .load 1 false (.tmp 15)⟩,
  ⟨(some 4), none, .mov (.cst (LV.str []))⟩,
  ⟨(some 5), none, .mov (.tmp 16)⟩] []) .ret) .skip)) (.seq (.seq (.reg [
  ⟨(some 17), none, .mov (.tmp 1)⟩,
  ⟨(some 18), none, .bin .lss (.tmp 17) (.cst (LV.int .i64 0))⟩] []) (.cond (.tmp 18) (.reg [
  ⟨(some 19), none, .mov (.tmp 0)⟩,
  ⟨(some 20), none, .nilCheck (.tmp 19)⟩,
  ⟨(some 21), none, .fieldAddr 2 2 (.tmp 20)⟩,
  ⟨none, none, .store 1 false (.tmp 21) (.cst (LV.int .i64 1))⟩] []) (.seq (.reg [
  ⟨(some 22), none, .mov (.tmp 1)⟩,
  ⟨(some 23), none, .mov (.tmp 0)⟩,
  ⟨(some 24), none, .nilCheck (.tmp 23)⟩,
  ⟨(some 25), none, .fieldAddr 0 0 (.tmp 24)⟩,
  ⟨(some 26), none, .load 1 false (.tmp 25)⟩,
  ⟨(some 27), none, .len true (.tmp 26)⟩,
  ⟨(some 28), none, .bin .gtr (.tmp 22) (.tmp 27)⟩,
  ⟨(some 29), none, .mov (.tmp 28)⟩,
  ⟨(some 30), (some (29, false)), .mov (.tmp 0)⟩,
  ⟨(some 31), (some (29, false)), .nilCheck (.tmp 30)⟩,
  ⟨(some 32), (some (29, false)), .fieldAddr 1 1 (.tmp 31)⟩,
  ⟨(some 33), (some (29, false)), .load 1 false (.tmp 32)⟩,
  ⟨(some 34), (some (29, false)), .mov (.tmp 0)⟩,
  ⟨(some 35), (some (29, false)), .nilCheck (.tmp 34)⟩,
  ⟨(some 36), (some (29, false)), .fieldAddr 0 0 (.tmp 35)⟩,
  ⟨(some 37), (some (29, false)), .load 1 false (.tmp 36)⟩,
  ⟨(some 38), (some (29, false)), .len true (.tmp 37)⟩,
  ⟨(some 39), (some (29, false)), .mov (.tmp 1)⟩,
  ⟨(some 40), (some (29, false)), .bin .sub (.tmp 38) (.tmp 39)⟩,
  ⟨(some 41), (some (29, false)), .bin .gtr (.tmp 33) (.tmp 40)⟩,
  ⟨(some 42), none, .pick (.tmp 29) (.cst (LV.bool true)) (.tmp 41)⟩] []) (.cond (.tmp 42) (.reg [
  ⟨(some 43), none, .mov (.tmp 0)⟩,
  ⟨(some 44), none, .nilCheck (.tmp 43)⟩,
  ⟨(some 45), none, .fieldAddr 2 2 (.tmp 44)⟩,
  ⟨none, none, .store 1 false (.tmp 45) (.cst (LV.int .i64 7))⟩] []) .skip)))) (.seq (.seq (.reg [
  ⟨(some 46), none, .mov (.tmp 0)⟩,
  ⟨(some 47), none, .nilCheck (.tmp 46)⟩,
  ⟨(some 48), none, .fieldAddr 2 2 (.tmp 47)⟩,
  ⟨(some 49), none, .load 1 false (.tmp 48)⟩,
  ⟨(some 50), none, .bin .neq (.tmp 49) (.cst (LV.int .i64 0))⟩] []) (.cond (.tmp 50) (.seq (.reg [
  ⟨(some 51), none, .mov (.tmp 0)⟩,
  ⟨(some 52), none, .mov (.tmp 0)⟩,
  ⟨(some 53), none, .nilCheck (.tmp 52)⟩,
  ⟨(some 54), none, .fieldAddr 1 1 (.tmp 53)⟩,
  ⟨(some 55), none, .load 1 false (.tmp 54)⟩,
  ⟨(some 56), none, .nilCheck (.tmp 51)⟩,
  ⟨(some 57), none, .fieldAddr 3 3 (.tmp 56)⟩,
  ⟨none, none, .store 1 false (.tmp 57) (.tmp 55)⟩] []) (.seq (.reg [
  ⟨(some 58), none, .mov (.tmp 0)⟩,
  ⟨(some 59), none, .nilCheck (.tmp 58)⟩,
  ⟨(some 60), none, .fieldAddr 2 2 (.tmp 59)⟩,
  ⟨(some 61), none, .load 1 false (.tmp 60)⟩,
  ⟨(some 4), none, .mov (.cst (LV.str []))⟩,
  ⟨(some 5), none, .mov (.tmp 61)⟩] []) .ret)) .skip)) (.seq (.reg [
  ⟨(some 6), none, .mov (.cst (LV.str []))⟩] []) (.seq (.seq (.reg [
  ⟨(some 7), none, .mov (.cst (LV.int .i64 0))⟩] []) (.block 0 (.loop [6, 7] [62, 63, 64, 67, 68, 69, 70, 71, 72, 73, 74, 75, 76, 77, 78, 79, 80, 81, 82, 83, 84, 85, 86, 87, 88, 89, 90, 65, 66] (.seq (.seq (.reg [
  ⟨(some 62), none, .mov (.tmp 7)⟩,
  ⟨(some 63), none, .mov (.tmp 1)⟩,
  ⟨(some 64), none, .bin .lss (.tmp 62) (.tmp 63)⟩] []) (.cond (.tmp 64) .skip (.exit 0))) (.seq (.block 1 (.seq (.reg [
  ⟨(some 67), none, .mov (.tmp 6)⟩,
  ⟨(some 68), none, .mov (.tmp 0)⟩,
  ⟨(some 69), none, .nilCheck (.tmp 68)⟩,
  ⟨(some 70), none, .fieldAddr 0 0 (.tmp 69)⟩,
  ⟨(some 71), none, .load 1 false (.tmp 70)⟩,
  ⟨(some 72), none, .mov (.tmp 0)⟩,
  ⟨(some 73), none, .nilCheck (.tmp 72)⟩,
  ⟨(some 74), none, .fieldAddr 1 1 (.tmp 73)⟩,
  ⟨(some 75), none, .load 1 false (.tmp 74)⟩,
  ⟨(some 76), none, .mov (.tmp 0)⟩,
  ⟨(some 77), none, .nilCheck (.tmp 76)⟩,
  ⟨(some 78), none, .fieldAddr 1 1 (.tmp 77)⟩,
  ⟨(some 79), none, .load 1 false (.tmp 78)⟩,
  ⟨(some 80), none, .bin .add (.tmp 79) (.cst (LV.int .i64 1))⟩,
  ⟨(some 81), none, .slc 0 (.tmp 71) (some (.tmp 75)) (some (.tmp 80))⟩,
  ⟨(some 82), none, .bin .add (.tmp 67) (.tmp 81)⟩,
  ⟨(some 6), none, .mov (.tmp 82)⟩] []) (.reg [
  ⟨(some 83), none, .mov (.tmp 0)⟩,
  ⟨(some 84), none, .mov (.tmp 0)⟩,
  ⟨(some 85), none, .nilCheck (.tmp 84)⟩,
  ⟨(some 86), none, .fieldAddr 1 1 (.tmp 85)⟩,
  ⟨(some 87), none, .load 1 false (.tmp 86)⟩,
  ⟨(some 88), none, .bin .add (.tmp 87) (.cst (LV.int .i64 1))⟩,
  ⟨(some 89), none, .nilCheck (.tmp 83)⟩,
  ⟨(some 90), none, .fieldAddr 1 1 (.tmp 89)⟩,
  ⟨none, none, .store 1 false (.tmp 90) (.tmp 88)⟩] []))) (.reg [
  ⟨(some 65), none, .mov (.tmp 7)⟩,
  ⟨(some 66), none, .bin .add (.tmp 65) (.cst (LV.int .i64 1))⟩,
  ⟨(some 7), none, .mov (.tmp 66)⟩] [])))))) (.seq (.reg [
  ⟨(some 91), none, .mov (.tmp 6)⟩,
  ⟨(some 4), none, .mov (.tmp 91)⟩,
  ⟨(some 5), none, .mov (.cst (LV.int .i64 0))⟩] []) .ret))))))), [.tmp 4, .tmp 5]⟩

end Go.Ev
