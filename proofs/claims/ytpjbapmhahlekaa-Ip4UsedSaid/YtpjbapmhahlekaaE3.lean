/- Part 3 of a proof: what the functions yield. It stands by itself; no condition. -/
import Derived.Test.YtpjbapmhahlekaaE0
/- The small code of the functions. -/
namespace Go.Ev
set_option linter.unusedVariables false
set_option maxRecDepth 100000
def id_main_main : Nat := 0
def id_gosem_cut : Nat := 1
def id_gosem_cut_init : Nat := 2
def id_interpreterlaw03_Ip4Writes : Nat := 3
def id_interpreterlaw03_Ip4Reads : Nat := 4
def id_interpreterlaw03_Ip4Heads : Nat := 5
def id_interpreterlaw03_Ip4Back : Nat := 6
def id_interpreterlaw03_Ip4Again : Nat := 7
def id_interpreterlaw03_Ip4Fields : Nat := 8
def id_interpreterlaw03_Ip4Cut : Nat := 9
def id_interpreterlaw03_Ip4Routes : Nat := 10
def id_interpreterlaw03_Ip4Used : Nat := 11
def id_interpreterlaw03_Ip4Known : Nat := 12
def id_interpreterlaw03_awake : Nat := 13
def id_ip4_Bytes : Nat := 14
def id_interpreterref03_Bytes : Nat := 15
def id_interpreterlaw03_same : Nat := 16
def id_ip4_Parse : Nat := 17
def id_interpreterref03_Parse : Nat := 18
def id_interpreterref02_Of : Nat := 19
def id_sum_Right : Nat := 20
def id_ip4_Routed : Nat := 21
def id_interpreterref03_Routed : Nat := 22
def id_interpreterlaw03_example : Nat := 23
def id_strings_Repeat : Nat := 24
def id_ip4_why : Nat := 25
def id_ip4_fault : Nat := 26
def id_ip4_big : Nat := 27
def id_sum_Of : Nat := 28
def id_interpreterref03_Why : Nat := 29
def id_ip4_Parse_1 : Nat := 30
def id_interpreterref03_number : Nat := 31
def id_interpreterref02_Total : Nat := 32
def id_interpreterref02_Words : Nat := 33
def id_math_bits_Mul : Nat := 34
def id_strings_HasPrefix : Nat := 35
def id_strings_Builder_Grow : Nat := 36
def id_strings_Builder_WriteString : Nat := 37
def id_strings_Builder_Len : Nat := 38
def id_strings_Builder_String : Nat := 39
def id_ip4_byteful : Nat := 40
def id_num_Big : Nat := 41
def id_sum_fold : Nat := 42
def id_sum_add : Nat := 43
def id_interpreterref03_within : Nat := 44
def id_interpreterref01_Reader_Number : Nat := 45
def id_math_bits_Mul32 : Nat := 46
def id_math_bits_Mul64 : Nat := 47
def id_internal_stringslite_HasPrefix : Nat := 48
def id_strings_Builder_copyCheck : Nat := 49
def id_strings_Builder_grow : Nat := 50
def id_interpreterref01_Reader_Text : Nat := 51
def id_internal_abi_NoEscape : Nat := 52
def id_internal_bytealg_MakeNoZero : Nat := 53
def id_runtime_boundsError_Error : Nat := 54
def id_runtime_boundsError_RuntimeError : Nat := 55
def id_runtime_errorString_Error : Nat := 56
def id_runtime_errorString_RuntimeError : Nat := 57
def id_runtime_plainError_Error : Nat := 58
def id_runtime_plainError_RuntimeError : Nat := 59
def id_runtime_errorAddressString_Error : Nat := 60
def id_runtime_errorAddressString_RuntimeError : Nat := 61
def id_runtime_TypeAssertionError_Error : Nat := 62
def id_runtime_TypeAssertionError_RuntimeError : Nat := 63
def id_runtime_PanicNilError_Error : Nat := 64
def id_runtime_PanicNilError_RuntimeError : Nat := 65
def id_internal_abi_Type_Align : Nat := 66
def id_internal_runtime_maps_unhashableTypeError_Error : Nat := 67
def id_internal_runtime_maps_unhashableTypeError_RuntimeError : Nat := 68
def id_num_Fault_Error : Nat := 69
def id_strings_Builder_Reset : Nat := 70
def id_interpreterref01_Reader_Rest : Nat := 71
def id_internal_abi_Kind_String : Nat := 72

def ty_ : Nat := 0
def ty_func : Nat := 1
def ty_int64 : Nat := 2
def ty_int : Nat := 3
def ty_bool : Nat := 4
def ty_uint8 : Nat := 5
def ty_abi_BoundsErrorCode : Nat := 6
def ty_struct_x_int64_y_int_signed_bool_code_abi_BoundsErrorCode : Nat := 7
def ty_runtime_boundsError : Nat := 8
def ty_string : Nat := 9
def ty_runtime_errorString : Nat := 10
def ty_runtime_plainError : Nat := 11
def ty_uintptr : Nat := 12
def ty_struct_msg_string_addr_uintptr : Nat := 13
def ty_runtime_errorAddressString : Nat := 14
def ty_ptr_runtime_TypeAssertionError : Nat := 15
def ty_ptr_runtime_PanicNilError : Nat := 16
def ty_ptr_abi_Type : Nat := 17
def ty_struct_typ_ptr_abi_Type : Nat := 18
def ty_maps_unhashableTypeError : Nat := 19
def ty_interface : Nat := 20
def ty_int32 : Nat := 21
def ty_4_uint8 : Nat := 22
def ty_api_V4 : Nat := 23
def ty_struct_Tos_int_Id_int_Ttl_int_Proto_int_At_int_DF_bool_More_bool_From_api_V4_To_api_V4_Options_string_Data_string : Nat := 24
def ty_api_Ip4 : Nat := 25
def ty_func_bool : Nat := 26
def ty_interface_Error_string : Nat := 27
def ty_error : Nat := 28
def ty_string_error : Nat := 29
def ty_func_api_Ip4_string_error : Nat := 30
def ty_string_int : Nat := 31
def ty_func_api_Ip4_string_int : Nat := 32
def ty_func_error_int_bool : Nat := 33
def ty_func_api_Ip4_bool : Nat := 34
def ty_api_Ip4_error : Nat := 35
def ty_func_string_api_Ip4_error : Nat := 36
def ty_api_Ip4_int : Nat := 37
def ty_func_string_api_Ip4_int : Nat := 38
def ty_func_string_bool : Nat := 39
def ty_func_string_int : Nat := 40
def ty_slice_uint8 : Nat := 41
def ty_func_api_Ip4_string_uint8_uint8_bool : Nat := 43
def ty_func_api_Ip4_uint8_bool : Nat := 44
def ty_uint16 : Nat := 45
def ty_func_api_Ip4_uint16_uint8_bool : Nat := 46
def ty_bool_error : Nat := 47
def ty_func_string_bool_error : Nat := 48
def ty_bool_int : Nat := 49
def ty_func_string_bool_int : Nat := 50
def ty_func_string_uint8_uint8_bool : Nat := 51
def ty_func_api_Ip4 : Nat := 52
def ty_func_string_int_string : Nat := 53
def ty_api_Errno : Nat := 54
def ty_func_api_Ip4_api_Errno : Nat := 55
def ty_func_api_Errno_error : Nat := 56
def ty_func_int_int_string : Nat := 57
def ty_func_api_Ip4_int : Nat := 59
def ty_ptr_num_Fault : Nat := 60
def ty_ptr_num_Fault_bool : Nat := 61
def ty_struct_Code_api_Errno_At_int : Nat := 62
def ty_num_Fault : Nat := 63
def ty_uint : Nat := 64
def ty_func_int_int : Nat := 65
def ty_func_string_int_int : Nat := 66
def ty_func_slice_int_int : Nat := 67
def ty_slice_int : Nat := 68
def ty_func_string_slice_int : Nat := 69
def ty_slice_string : Nat := 70
def ty_uint_uint : Nat := 71
def ty_func_uint_uint_uint_uint : Nat := 72
def ty_func_string_string_bool : Nat := 73
def ty_ptr_strings_Builder : Nat := 74
def ty_struct_addr_ptr_strings_Builder_buf_slice_uint8 : Nat := 75
def ty_strings_Builder : Nat := 76
def ty_func_int : Nat := 77
def ty_int_error : Nat := 78
def ty_func_string_int_error : Nat := 79
def ty_func_string : Nat := 81
def ty_func_int_bool : Nat := 82
def ty_func_int_int_string_error : Nat := 83
def ty_func_int_int_string_uint8_int : Nat := 84
def ty_func_int_int_bool : Nat := 85
def ty_ptr_interpreterref01_Reader : Nat := 86
def ty_struct_S_string_At_int_Bad_int_BadPlace_int : Nat := 87
def ty_interpreterref01_Reader : Nat := 88
def ty_int_int : Nat := 89
def ty_func_int_int_int : Nat := 90
def ty_uint32 : Nat := 91
def ty_uint32_uint32 : Nat := 92
def ty_func_uint32_uint32_uint32_uint32 : Nat := 93
def ty_uint64 : Nat := 94
def ty_uint64_uint64 : Nat := 95
def ty_func_uint64_uint64_uint64_uint64 : Nat := 96
def ty_ptr_uint8 : Nat := 97
def ty_func_int_string_int : Nat := 98
def ty_unsafe_Pointer : Nat := 99
def ty_func_unsafe_Pointer_unsafe_Pointer : Nat := 100
def ty_func_int_slice_uint8 : Nat := 101
def ty_struct_interface_ptr_abi_Type_concrete_ptr_abi_Type_asserted_ptr_abi_Type_missingMethod_string : Nat := 102
def ty_runtime_TypeAssertionError : Nat := 103
def ty_0_ptr_runtime_PanicNilError : Nat := 104
def ty_struct_0_ptr_runtime_PanicNilError : Nat := 105
def ty_runtime_PanicNilError : Nat := 106
def ty_abi_TFlag : Nat := 107
def ty_abi_Kind : Nat := 108
def ty_func_unsafe_Pointer_unsafe_Pointer_bool : Nat := 109
def ty_abi_NameOff : Nat := 110
def ty_abi_TypeOff : Nat := 111
def ty_struct_Size_uintptr_PtrBytes_uintptr_Hash_uint32_TFlag_abi_TFlag_Align_uint8_FieldAlign_uint8_Kind_abi_Kind_Equal_func_unsafe_Pointer_unsafe_Pointer_bool_GCData_ptr_uint8_Str_abi_NameOff_PtrToThis_abi_TypeOff : Nat := 112
def ty_abi_Type : Nat := 113

/-- interpreter/interpreterlaw03.Ip4Writes -/
def c_interpreterlaw03_Ip4Writes : MFn := ⟨1, 37, (.seq (.reg [
  ⟨(some 1), none, .box (.tmp 0)⟩,
  ⟨(some 2), none, .mov (.cst (LV.bool false))⟩] []) (.seq (.seq (.reg [
  ⟨(some 7), none, .call id_interpreterlaw03_awake []⟩,
  ⟨(some 8), none, .un .not (.tmp 7)⟩] []) (.cond (.tmp 8) (.seq (.reg [
  ⟨(some 2), none, .mov (.cst (LV.bool false))⟩] []) .ret) .skip)) (.seq (.seq (.reg [
  ⟨(some 9), none, .fieldAddr 10 16 (.tmp 1)⟩,
  ⟨(some 10), none, .load 1 false (.tmp 9)⟩,
  ⟨(some 11), none, .len true (.tmp 10)⟩,
  ⟨(some 12), none, .bin .gtr (.tmp 11) (.cst (LV.int .i64 70000))⟩,
  ⟨(some 13), none, .mov (.tmp 12)⟩,
  ⟨(some 14), (some (13, false)), .fieldAddr 9 15 (.tmp 1)⟩,
  ⟨(some 15), (some (13, false)), .load 1 false (.tmp 14)⟩,
  ⟨(some 16), (some (13, false)), .len true (.tmp 15)⟩,
  ⟨(some 17), (some (13, false)), .bin .gtr (.tmp 16) (.cst (LV.int .i64 1000))⟩,
  ⟨(some 18), none, .pick (.tmp 13) (.cst (LV.bool true)) (.tmp 17)⟩] []) (.cond (.tmp 18) (.seq (.reg [
  ⟨(some 2), none, .mov (.cst (LV.bool true))⟩] []) .ret) .skip)) (.seq (.reg [
  ⟨(some 20), none, .load 17 true (.tmp 1)⟩,
  ⟨(some 21), none, .call id_ip4_Bytes [(.tmp 20)]⟩,
  ⟨(some 19), none, .mov (.tmp 21)⟩,
  ⟨(some 22), none, .extract (.tmp 19) 0⟩,
  ⟨(some 23), none, .extract (.tmp 19) 1⟩,
  ⟨(some 3), none, .mov (.tmp 22)⟩,
  ⟨(some 4), none, .mov (.tmp 23)⟩] []) (.seq (.reg [
  ⟨(some 25), none, .load 17 true (.tmp 1)⟩,
  ⟨(some 26), none, .call id_interpreterref03_Bytes [(.tmp 25)]⟩,
  ⟨(some 24), none, .mov (.tmp 26)⟩,
  ⟨(some 27), none, .extract (.tmp 24) 0⟩,
  ⟨(some 28), none, .extract (.tmp 24) 1⟩,
  ⟨(some 5), none, .mov (.tmp 27)⟩,
  ⟨(some 6), none, .mov (.tmp 28)⟩] []) (.seq (.reg [
  ⟨(some 29), none, .mov (.tmp 3)⟩,
  ⟨(some 30), none, .mov (.tmp 5)⟩,
  ⟨(some 31), none, .bin .eql (.tmp 29) (.tmp 30)⟩,
  ⟨(some 32), none, .mov (.tmp 31)⟩,
  ⟨(some 33), (some (32, true)), .mov (.tmp 4)⟩,
  ⟨(some 34), (some (32, true)), .mov (.tmp 6)⟩,
  ⟨(some 35), (some (32, true)), .call id_interpreterlaw03_same [(.tmp 33), (.tmp 34)]⟩,
  ⟨(some 36), none, .pick (.tmp 32) (.tmp 35) (.cst (LV.bool false))⟩,
  ⟨(some 2), none, .mov (.tmp 36)⟩] []) .ret)))))), [.tmp 2]⟩
/-- interpreter/interpreterlaw03.Ip4Reads -/
def c_interpreterlaw03_Ip4Reads : MFn := ⟨1, 30, (.seq (.reg [
  ⟨(some 2), none, .mov (.cst (LV.bool false))⟩] []) (.seq (.seq (.reg [
  ⟨(some 7), none, .call id_interpreterlaw03_awake []⟩,
  ⟨(some 8), none, .un .not (.tmp 7)⟩] []) (.cond (.tmp 8) (.seq (.reg [
  ⟨(some 2), none, .mov (.cst (LV.bool false))⟩] []) .ret) .skip)) (.seq (.seq (.reg [
  ⟨(some 9), none, .mov (.tmp 0)⟩,
  ⟨(some 10), none, .len true (.tmp 9)⟩,
  ⟨(some 11), none, .bin .gtr (.tmp 10) (.cst (LV.int .i64 70000))⟩] []) (.cond (.tmp 11) (.seq (.reg [
  ⟨(some 2), none, .mov (.cst (LV.bool true))⟩] []) .ret) .skip)) (.seq (.reg [
  ⟨(some 13), none, .mov (.tmp 0)⟩,
  ⟨(some 14), none, .call id_ip4_Parse [(.tmp 13)]⟩,
  ⟨(some 12), none, .mov (.tmp 14)⟩,
  ⟨(some 15), none, .extract (.tmp 12) 0⟩,
  ⟨(some 16), none, .extract (.tmp 12) 1⟩,
  ⟨(some 3), none, .alloc (LV.agg [(LV.int .i64 0), (LV.int .i64 0), (LV.int .i64 0), (LV.int .i64 0), (LV.int .i64 0), (LV.bool false), (LV.bool false), (LV.bytes [0, 0, 0, 0]), (LV.bytes [0, 0, 0, 0]), (LV.str []), (LV.str [])])⟩,
  ⟨none, none, .store 17 true (.tmp 3) (.tmp 15)⟩,
  ⟨(some 4), none, .mov (.tmp 16)⟩] []) (.seq (.reg [
  ⟨(some 18), none, .mov (.tmp 0)⟩,
  ⟨(some 19), none, .call id_interpreterref03_Parse [(.tmp 18)]⟩,
  ⟨(some 17), none, .mov (.tmp 19)⟩,
  ⟨(some 20), none, .extract (.tmp 17) 0⟩,
  ⟨(some 21), none, .extract (.tmp 17) 1⟩,
  ⟨(some 5), none, .alloc (LV.agg [(LV.int .i64 0), (LV.int .i64 0), (LV.int .i64 0), (LV.int .i64 0), (LV.int .i64 0), (LV.bool false), (LV.bool false), (LV.bytes [0, 0, 0, 0]), (LV.bytes [0, 0, 0, 0]), (LV.str []), (LV.str [])])⟩,
  ⟨none, none, .store 17 true (.tmp 5) (.tmp 20)⟩,
  ⟨(some 6), none, .mov (.tmp 21)⟩] []) (.seq (.reg [
  ⟨(some 22), none, .load 17 true (.tmp 3)⟩,
  ⟨(some 23), none, .load 17 true (.tmp 5)⟩,
  ⟨(some 24), none, .eqS (Sh.agg [(Sh.int .i64), (Sh.int .i64), (Sh.int .i64), (Sh.int .i64), (Sh.int .i64), Sh.bool, Sh.bool, (Sh.bytes 4), (Sh.bytes 4), Sh.str, Sh.str]) false (.tmp 22) (.tmp 23)⟩,
  ⟨(some 25), none, .mov (.tmp 24)⟩,
  ⟨(some 26), (some (25, true)), .mov (.tmp 4)⟩,
  ⟨(some 27), (some (25, true)), .mov (.tmp 6)⟩,
  ⟨(some 28), (some (25, true)), .call id_interpreterlaw03_same [(.tmp 26), (.tmp 27)]⟩,
  ⟨(some 29), none, .pick (.tmp 25) (.tmp 28) (.cst (LV.bool false))⟩,
  ⟨(some 2), none, .mov (.tmp 29)⟩] []) .ret)))))), [.tmp 2]⟩
/-- interpreter/interpreterlaw03.Ip4Heads -/
def c_interpreterlaw03_Ip4Heads : MFn := ⟨1, 53, (.seq (.reg [
  ⟨(some 2), none, .mov (.cst (LV.bool false))⟩] []) (.seq (.seq (.reg [
  ⟨(some 5), none, .call id_interpreterlaw03_awake []⟩,
  ⟨(some 6), none, .un .not (.tmp 5)⟩] []) (.cond (.tmp 6) (.seq (.reg [
  ⟨(some 2), none, .mov (.cst (LV.bool false))⟩] []) .ret) .skip)) (.seq (.seq (.reg [
  ⟨(some 7), none, .mov (.tmp 0)⟩,
  ⟨(some 8), none, .len true (.tmp 7)⟩,
  ⟨(some 9), none, .bin .gtr (.tmp 8) (.cst (LV.int .i64 70000))⟩,
  ⟨(some 10), none, .mov (.tmp 9)⟩,
  ⟨(some 11), (some (10, false)), .mov (.tmp 0)⟩,
  ⟨(some 12), (some (10, false)), .len true (.tmp 11)⟩,
  ⟨(some 13), (some (10, false)), .bin .lss (.tmp 12) (.cst (LV.int .i64 20))⟩,
  ⟨(some 14), none, .pick (.tmp 10) (.cst (LV.bool true)) (.tmp 13)⟩] []) (.cond (.tmp 14) (.seq (.reg [
  ⟨(some 2), none, .mov (.cst (LV.bool true))⟩] []) .ret) .skip)) (.seq (.reg [
  ⟨(some 15), none, .mov (.tmp 0)⟩,
  ⟨(some 16), none, .idxStr (.tmp 15) (.cst (LV.int .i64 0))⟩,
  ⟨(some 17), none, .bin .and (.tmp 16) (.cst (LV.int .u8 15))⟩,
  ⟨(some 18), none, .conv .i64 (.tmp 17)⟩,
  ⟨(some 19), none, .bin .mul (.cst (LV.int .i64 4)) (.tmp 18)⟩,
  ⟨(some 3), none, .mov (.tmp 19)⟩] []) (.seq (.seq (.reg [
  ⟨(some 20), none, .mov (.tmp 3)⟩,
  ⟨(some 21), none, .bin .lss (.tmp 20) (.cst (LV.int .i64 20))⟩,
  ⟨(some 22), none, .mov (.tmp 21)⟩,
  ⟨(some 23), (some (22, false)), .mov (.tmp 3)⟩,
  ⟨(some 24), (some (22, false)), .mov (.tmp 0)⟩,
  ⟨(some 25), (some (22, false)), .len true (.tmp 24)⟩,
  ⟨(some 26), (some (22, false)), .bin .gtr (.tmp 23) (.tmp 25)⟩,
  ⟨(some 27), none, .pick (.tmp 22) (.cst (LV.bool true)) (.tmp 26)⟩] []) (.cond (.tmp 27) (.seq (.reg [
  ⟨(some 28), none, .mov (.tmp 0)⟩,
  ⟨(some 29), none, .call id_interpreterlaw03_Ip4Reads [(.tmp 28)]⟩,
  ⟨(some 2), none, .mov (.tmp 29)⟩] []) .ret) .skip)) (.seq (.reg [
  ⟨(some 30), none, .mov (.tmp 0)⟩,
  ⟨(some 31), none, .slc 0 (.tmp 30) none (some (.cst (LV.int .i64 10)))⟩,
  ⟨(some 32), none, .bin .add (.tmp 31) (.cst (LV.str [0, 0]))⟩,
  ⟨(some 33), none, .mov (.tmp 0)⟩,
  ⟨(some 34), none, .mov (.tmp 3)⟩,
  ⟨(some 35), none, .slc 0 (.tmp 33) (some (.cst (LV.int .i64 12))) (some (.tmp 34))⟩,
  ⟨(some 36), none, .bin .add (.tmp 32) (.tmp 35)⟩,
  ⟨(some 37), none, .call id_interpreterref02_Of [(.tmp 36)]⟩,
  ⟨(some 4), none, .mov (.tmp 37)⟩] []) (.seq (.reg [
  ⟨(some 38), none, .mov (.tmp 0)⟩,
  ⟨(some 39), none, .slc 0 (.tmp 38) none (some (.cst (LV.int .i64 10)))⟩,
  ⟨(some 40), none, .mov (.tmp 4)⟩,
  ⟨(some 41), none, .bin .quo (.tmp 40) (.cst (LV.int .i64 256))⟩,
  ⟨(some 42), none, .conv .u8 (.tmp 41)⟩,
  ⟨(some 43), none, .mov (.tmp 4)⟩,
  ⟨(some 44), none, .bin .rem (.tmp 43) (.cst (LV.int .i64 256))⟩,
  ⟨(some 45), none, .conv .u8 (.tmp 44)⟩,
  ⟨(some 46), none, .bsl (LV.int .u8 0) 2 [(0, (.tmp 42)), (1, (.tmp 45))]⟩,
  ⟨(some 47), none, .b2s (.tmp 46)⟩,
  ⟨(some 48), none, .bin .add (.tmp 39) (.tmp 47)⟩,
  ⟨(some 49), none, .mov (.tmp 0)⟩,
  ⟨(some 50), none, .slc 0 (.tmp 49) (some (.cst (LV.int .i64 12))) none⟩,
  ⟨(some 51), none, .bin .add (.tmp 48) (.tmp 50)⟩,
  ⟨(some 52), none, .call id_interpreterlaw03_Ip4Reads [(.tmp 51)]⟩,
  ⟨(some 2), none, .mov (.tmp 52)⟩] []) .ret))))))), [.tmp 2]⟩
/-- interpreter/interpreterlaw03.Ip4Back -/
def c_interpreterlaw03_Ip4Back : MFn := ⟨4, 152, (.seq (.reg [
  ⟨(some 4), none, .box (.tmp 0)⟩,
  ⟨(some 8), none, .mov (.cst (LV.bool false))⟩] []) (.seq (.seq (.reg [
  ⟨(some 21), none, .call id_interpreterlaw03_awake []⟩,
  ⟨(some 22), none, .un .not (.tmp 21)⟩] []) (.cond (.tmp 22) (.seq (.reg [
  ⟨(some 8), none, .mov (.cst (LV.bool false))⟩] []) .ret) .skip)) (.seq (.seq (.reg [
  ⟨(some 23), none, .fieldAddr 10 16 (.tmp 4)⟩,
  ⟨(some 24), none, .load 1 false (.tmp 23)⟩,
  ⟨(some 25), none, .len true (.tmp 24)⟩,
  ⟨(some 26), none, .bin .gtr (.tmp 25) (.cst (LV.int .i64 70000))⟩,
  ⟨(some 27), none, .mov (.tmp 26)⟩,
  ⟨(some 28), (some (27, false)), .fieldAddr 9 15 (.tmp 4)⟩,
  ⟨(some 29), (some (27, false)), .load 1 false (.tmp 28)⟩,
  ⟨(some 30), (some (27, false)), .len true (.tmp 29)⟩,
  ⟨(some 31), (some (27, false)), .bin .gtr (.tmp 30) (.cst (LV.int .i64 1000))⟩,
  ⟨(some 32), none, .pick (.tmp 27) (.cst (LV.bool true)) (.tmp 31)⟩,
  ⟨(some 33), none, .mov (.tmp 32)⟩,
  ⟨(some 34), (some (33, false)), .mov (.tmp 1)⟩,
  ⟨(some 35), (some (33, false)), .len true (.tmp 34)⟩,
  ⟨(some 36), (some (33, false)), .bin .gtr (.tmp 35) (.cst (LV.int .i64 1000))⟩,
  ⟨(some 37), none, .pick (.tmp 33) (.cst (LV.bool true)) (.tmp 36)⟩] []) (.cond (.tmp 37) (.seq (.reg [
  ⟨(some 8), none, .mov (.cst (LV.bool true))⟩] []) .ret) .skip)) (.seq (.reg [
  ⟨(some 39), none, .load 17 true (.tmp 4)⟩,
  ⟨(some 40), none, .call id_ip4_Bytes [(.tmp 39)]⟩,
  ⟨(some 38), none, .mov (.tmp 40)⟩,
  ⟨(some 41), none, .extract (.tmp 38) 0⟩,
  ⟨(some 42), none, .extract (.tmp 38) 1⟩,
  ⟨(some 9), none, .mov (.tmp 41)⟩,
  ⟨(some 10), none, .mov (.tmp 42)⟩] []) (.seq (.seq (.reg [
  ⟨(some 43), none, .mov (.tmp 10)⟩,
  ⟨(some 44), none, .eqNil 1 true (.tmp 43)⟩] []) (.cond (.tmp 44) (.seq (.reg [
  ⟨(some 45), none, .mov (.tmp 9)⟩,
  ⟨(some 46), none, .bin .eql (.tmp 45) (.cst (LV.str []))⟩,
  ⟨(some 8), none, .mov (.tmp 46)⟩] []) .ret) .skip)) (.seq (.reg [
  ⟨(some 47), none, .fieldAddr 9 15 (.tmp 4)⟩,
  ⟨(some 48), none, .load 1 false (.tmp 47)⟩,
  ⟨(some 49), none, .len true (.tmp 48)⟩,
  ⟨(some 50), none, .bin .add (.cst (LV.int .i64 20)) (.tmp 49)⟩,
  ⟨(some 11), none, .mov (.tmp 50)⟩] []) (.seq (.seq (.reg [
  ⟨(some 51), none, .mov (.tmp 9)⟩,
  ⟨(some 52), none, .len true (.tmp 51)⟩,
  ⟨(some 53), none, .mov (.tmp 11)⟩,
  ⟨(some 54), none, .fieldAddr 10 16 (.tmp 4)⟩,
  ⟨(some 55), none, .load 1 false (.tmp 54)⟩,
  ⟨(some 56), none, .len true (.tmp 55)⟩,
  ⟨(some 57), none, .bin .add (.tmp 53) (.tmp 56)⟩,
  ⟨(some 58), none, .bin .neq (.tmp 52) (.tmp 57)⟩,
  ⟨(some 59), none, .mov (.tmp 58)⟩,
  ⟨(some 60), (some (59, false)), .mov (.tmp 9)⟩,
  ⟨(some 61), (some (59, false)), .mov (.tmp 11)⟩,
  ⟨(some 62), (some (59, false)), .slc 0 (.tmp 60) none (some (.tmp 61))⟩,
  ⟨(some 63), (some (59, false)), .bsl (LV.str []) 1 [(0, (.tmp 62))]⟩,
  ⟨(some 64), (some (59, false)), .call id_sum_Right [(.tmp 63)]⟩,
  ⟨(some 65), (some (59, false)), .un .not (.tmp 64)⟩,
  ⟨(some 66), none, .pick (.tmp 59) (.cst (LV.bool true)) (.tmp 65)⟩,
  ⟨(some 67), none, .mov (.tmp 66)⟩,
  ⟨(some 68), (some (67, false)), .mov (.tmp 9)⟩,
  ⟨(some 69), (some (67, false)), .mov (.tmp 11)⟩,
  ⟨(some 70), (some (67, false)), .slc 0 (.tmp 68) (some (.tmp 69)) none⟩,
  ⟨(some 71), (some (67, false)), .fieldAddr 10 16 (.tmp 4)⟩,
  ⟨(some 72), (some (67, false)), .load 1 false (.tmp 71)⟩,
  ⟨(some 73), (some (67, false)), .bin .neq (.tmp 70) (.tmp 72)⟩,
  ⟨(some 74), none, .pick (.tmp 67) (.cst (LV.bool true)) (.tmp 73)⟩,
  ⟨(some 75), none, .mov (.tmp 74)⟩,
  ⟨(some 76), (some (75, false)), .mov (.tmp 9)⟩,
  ⟨(some 77), (some (75, false)), .mov (.tmp 11)⟩,
  ⟨(some 78), (some (75, false)), .slc 0 (.tmp 76) (some (.cst (LV.int .i64 20))) (some (.tmp 77))⟩,
  ⟨(some 79), (some (75, false)), .fieldAddr 9 15 (.tmp 4)⟩,
  ⟨(some 80), (some (75, false)), .load 1 false (.tmp 79)⟩,
  ⟨(some 81), (some (75, false)), .bin .neq (.tmp 78) (.tmp 80)⟩,
  ⟨(some 82), none, .pick (.tmp 75) (.cst (LV.bool true)) (.tmp 81)⟩] []) (.cond (.tmp 82) (.seq (.reg [
  ⟨(some 8), none, .mov (.cst (LV.bool false))⟩] []) .ret) .skip)) (.seq (.reg [
  ⟨(some 84), none, .mov (.tmp 9)⟩,
  ⟨(some 85), none, .mov (.tmp 1)⟩,
  ⟨(some 86), none, .bin .add (.tmp 84) (.tmp 85)⟩,
  ⟨(some 87), none, .call id_ip4_Parse [(.tmp 86)]⟩,
  ⟨(some 83), none, .mov (.tmp 87)⟩,
  ⟨(some 88), none, .extract (.tmp 83) 0⟩,
  ⟨(some 89), none, .extract (.tmp 83) 1⟩,
  ⟨(some 12), none, .alloc (LV.agg [(LV.int .i64 0), (LV.int .i64 0), (LV.int .i64 0), (LV.int .i64 0), (LV.int .i64 0), (LV.bool false), (LV.bool false), (LV.bytes [0, 0, 0, 0]), (LV.bytes [0, 0, 0, 0]), (LV.str []), (LV.str [])])⟩,
  ⟨none, none, .store 17 true (.tmp 12) (.tmp 88)⟩,
  ⟨(some 13), none, .mov (.tmp 89)⟩] []) (.seq (.reg [
  ⟨(some 91), none, .mov (.tmp 9)⟩,
  ⟨(some 92), none, .mov (.tmp 9)⟩,
  ⟨(some 93), none, .len true (.tmp 92)⟩,
  ⟨(some 94), none, .bin .sub (.tmp 93) (.cst (LV.int .i64 1))⟩,
  ⟨(some 95), none, .slc 0 (.tmp 91) none (some (.tmp 94))⟩,
  ⟨(some 96), none, .call id_ip4_Parse [(.tmp 95)]⟩,
  ⟨(some 90), none, .mov (.tmp 96)⟩,
  ⟨(some 97), none, .extract (.tmp 90) 0⟩,
  ⟨(some 98), none, .extract (.tmp 90) 1⟩,
  ⟨(some 14), none, .alloc (LV.agg [(LV.int .i64 0), (LV.int .i64 0), (LV.int .i64 0), (LV.int .i64 0), (LV.int .i64 0), (LV.bool false), (LV.bool false), (LV.bytes [0, 0, 0, 0]), (LV.bytes [0, 0, 0, 0]), (LV.str []), (LV.str [])])⟩,
  ⟨none, none, .store 17 true (.tmp 14) (.tmp 97)⟩,
  ⟨(some 15), none, .mov (.tmp 98)⟩] []) (.seq (.reg [
  ⟨(some 99), none, .mov (.tmp 9)⟩,
  ⟨(some 100), none, .s2b (.tmp 99)⟩,
  ⟨(some 16), none, .mov (.tmp 100)⟩] []) (.seq (.reg [
  ⟨(some 101), none, .mov (.tmp 2)⟩,
  ⟨(some 102), none, .conv .i64 (.tmp 101)⟩,
  ⟨(some 103), none, .mov (.tmp 11)⟩,
  ⟨(some 104), none, .bin .rem (.tmp 102) (.tmp 103)⟩,
  ⟨(some 17), none, .mov (.tmp 104)⟩] []) (.seq (.reg [
  ⟨(some 105), none, .mov (.tmp 16)⟩,
  ⟨(some 106), none, .mov (.tmp 17)⟩,
  ⟨(some 107), none, .mov (.tmp 16)⟩,
  ⟨(some 108), none, .mov (.tmp 17)⟩,
  ⟨(some 109), none, .idxAddr none 1 (.tmp 107) (.tmp 108)⟩,
  ⟨(some 110), none, .load 1 false (.tmp 109)⟩,
  ⟨(some 111), none, .mov (.tmp 3)⟩,
  ⟨(some 112), none, .bin .rem (.tmp 111) (.cst (LV.int .u8 8))⟩,
  ⟨(some 113), none, .bin .shl (.cst (LV.int .u8 1)) (.tmp 112)⟩,
  ⟨(some 114), none, .bin .xor (.tmp 110) (.tmp 113)⟩,
  ⟨(some 115), none, .idxAddr none 1 (.tmp 105) (.tmp 106)⟩,
  ⟨none, none, .store 1 false (.tmp 115) (.tmp 114)⟩] []) (.seq (.reg [
  ⟨(some 117), none, .mov (.tmp 16)⟩,
  ⟨(some 118), none, .b2s (.tmp 117)⟩,
  ⟨(some 119), none, .call id_ip4_Parse [(.tmp 118)]⟩,
  ⟨(some 116), none, .mov (.tmp 119)⟩,
  ⟨(some 120), none, .extract (.tmp 116) 0⟩,
  ⟨(some 121), none, .extract (.tmp 116) 1⟩,
  ⟨(some 18), none, .alloc (LV.agg [(LV.int .i64 0), (LV.int .i64 0), (LV.int .i64 0), (LV.int .i64 0), (LV.int .i64 0), (LV.bool false), (LV.bool false), (LV.bytes [0, 0, 0, 0]), (LV.bytes [0, 0, 0, 0]), (LV.str []), (LV.str [])])⟩,
  ⟨none, none, .store 17 true (.tmp 18) (.tmp 120)⟩,
  ⟨(some 19), none, .mov (.tmp 121)⟩] []) (.seq (.reg [
  ⟨(some 122), none, .mov (.tmp 17)⟩,
  ⟨(some 123), none, .bin .eql (.tmp 122) (.cst (LV.int .i64 0))⟩,
  ⟨(some 124), none, .mov (.tmp 123)⟩,
  ⟨(some 125), (some (124, true)), .mov (.tmp 3)⟩,
  ⟨(some 126), (some (124, true)), .bin .rem (.tmp 125) (.cst (LV.int .u8 8))⟩,
  ⟨(some 127), (some (124, true)), .bin .lss (.tmp 126) (.cst (LV.int .u8 4))⟩,
  ⟨(some 128), none, .pick (.tmp 124) (.tmp 127) (.cst (LV.bool false))⟩,
  ⟨(some 20), none, .mov (.tmp 128)⟩] []) (.seq (.reg [
  ⟨(some 129), none, .mov (.tmp 13)⟩,
  ⟨(some 130), none, .eqNil 1 false (.tmp 129)⟩,
  ⟨(some 131), none, .mov (.tmp 130)⟩,
  ⟨(some 132), (some (131, true)), .load 17 true (.tmp 12)⟩,
  ⟨(some 133), (some (131, true)), .load 17 true (.tmp 4)⟩,
  ⟨(some 134), (some (131, true)), .eqS (Sh.agg [(Sh.int .i64), (Sh.int .i64), (Sh.int .i64), (Sh.int .i64), (Sh.int .i64), Sh.bool, Sh.bool, (Sh.bytes 4), (Sh.bytes 4), Sh.str, Sh.str]) false (.tmp 132) (.tmp 133)⟩,
  ⟨(some 135), none, .pick (.tmp 131) (.tmp 134) (.cst (LV.bool false))⟩,
  ⟨(some 136), none, .mov (.tmp 135)⟩,
  ⟨(some 137), (some (136, true)), .mov (.tmp 15)⟩,
  ⟨(some 138), (some (136, true)), .eqNil 1 true (.tmp 137)⟩,
  ⟨(some 139), none, .pick (.tmp 136) (.tmp 138) (.cst (LV.bool false))⟩,
  ⟨(some 140), none, .mov (.tmp 139)⟩,
  ⟨(some 141), (some (140, true)), .mov (.tmp 20)⟩,
  ⟨(some 142), (some (140, true)), .mov (.tmp 141)⟩,
  ⟨(some 143), (some (142, false)), .mov (.tmp 19)⟩,
  ⟨(some 144), (some (142, false)), .eqNil 1 true (.tmp 143)⟩,
  ⟨(some 145), (some (142, false)), .mov (.tmp 144)⟩,
  ⟨(some 146), (some (145, true)), .load 17 true (.tmp 18)⟩,
  ⟨(some 147), (some (145, true)), .build (LV.agg [(LV.int .i64 0), (LV.int .i64 0), (LV.int .i64 0), (LV.int .i64 0), (LV.int .i64 0), (LV.bool false), (LV.bool false), (LV.bytes [0, 0, 0, 0]), (LV.bytes [0, 0, 0, 0]), (LV.str []), (LV.str [])]) []⟩,
  ⟨(some 148), (some (145, true)), .eqS (Sh.agg [(Sh.int .i64), (Sh.int .i64), (Sh.int .i64), (Sh.int .i64), (Sh.int .i64), Sh.bool, Sh.bool, (Sh.bytes 4), (Sh.bytes 4), Sh.str, Sh.str]) false (.tmp 146) (.tmp 147)⟩,
  ⟨(some 149), (some (142, false)), .pick (.tmp 145) (.tmp 148) (.cst (LV.bool false))⟩,
  ⟨(some 150), (some (140, true)), .pick (.tmp 142) (.cst (LV.bool true)) (.tmp 149)⟩,
  ⟨(some 151), none, .pick (.tmp 140) (.tmp 150) (.cst (LV.bool false))⟩,
  ⟨(some 8), none, .mov (.tmp 151)⟩] []) .ret))))))))))))))), [.tmp 8]⟩
/-- interpreter/interpreterlaw03.Ip4Again -/
def c_interpreterlaw03_Ip4Again : MFn := ⟨1, 68, (.seq (.reg [
  ⟨(some 2), none, .mov (.cst (LV.bool false))⟩] []) (.seq (.seq (.reg [
  ⟨(some 9), none, .call id_interpreterlaw03_awake []⟩,
  ⟨(some 10), none, .un .not (.tmp 9)⟩] []) (.cond (.tmp 10) (.seq (.reg [
  ⟨(some 2), none, .mov (.cst (LV.bool false))⟩] []) .ret) .skip)) (.seq (.seq (.reg [
  ⟨(some 11), none, .mov (.tmp 0)⟩,
  ⟨(some 12), none, .len true (.tmp 11)⟩,
  ⟨(some 13), none, .bin .gtr (.tmp 12) (.cst (LV.int .i64 70000))⟩] []) (.cond (.tmp 13) (.seq (.reg [
  ⟨(some 2), none, .mov (.cst (LV.bool true))⟩] []) .ret) .skip)) (.seq (.reg [
  ⟨(some 15), none, .mov (.tmp 0)⟩,
  ⟨(some 16), none, .call id_ip4_Parse [(.tmp 15)]⟩,
  ⟨(some 14), none, .mov (.tmp 16)⟩,
  ⟨(some 17), none, .extract (.tmp 14) 0⟩,
  ⟨(some 18), none, .extract (.tmp 14) 1⟩,
  ⟨(some 3), none, .alloc (LV.agg [(LV.int .i64 0), (LV.int .i64 0), (LV.int .i64 0), (LV.int .i64 0), (LV.int .i64 0), (LV.bool false), (LV.bool false), (LV.bytes [0, 0, 0, 0]), (LV.bytes [0, 0, 0, 0]), (LV.str []), (LV.str [])])⟩,
  ⟨none, none, .store 17 true (.tmp 3) (.tmp 17)⟩,
  ⟨(some 4), none, .mov (.tmp 18)⟩] []) (.seq (.seq (.reg [
  ⟨(some 19), none, .mov (.tmp 4)⟩,
  ⟨(some 20), none, .eqNil 1 true (.tmp 19)⟩] []) (.cond (.tmp 20) (.seq (.reg [
  ⟨(some 21), none, .load 17 true (.tmp 3)⟩,
  ⟨(some 22), none, .build (LV.agg [(LV.int .i64 0), (LV.int .i64 0), (LV.int .i64 0), (LV.int .i64 0), (LV.int .i64 0), (LV.bool false), (LV.bool false), (LV.bytes [0, 0, 0, 0]), (LV.bytes [0, 0, 0, 0]), (LV.str []), (LV.str [])]) []⟩,
  ⟨(some 23), none, .eqS (Sh.agg [(Sh.int .i64), (Sh.int .i64), (Sh.int .i64), (Sh.int .i64), (Sh.int .i64), Sh.bool, Sh.bool, (Sh.bytes 4), (Sh.bytes 4), Sh.str, Sh.str]) false (.tmp 21) (.tmp 22)⟩,
  ⟨(some 2), none, .mov (.tmp 23)⟩] []) .ret) .skip)) (.seq (.reg [
  ⟨(some 25), none, .load 17 true (.tmp 3)⟩,
  ⟨(some 26), none, .call id_ip4_Bytes [(.tmp 25)]⟩,
  ⟨(some 24), none, .mov (.tmp 26)⟩,
  ⟨(some 27), none, .extract (.tmp 24) 0⟩,
  ⟨(some 28), none, .extract (.tmp 24) 1⟩,
  ⟨(some 5), none, .mov (.tmp 27)⟩,
  ⟨(some 6), none, .mov (.tmp 28)⟩] []) (.seq (.reg [
  ⟨(some 30), none, .mov (.tmp 5)⟩,
  ⟨(some 31), none, .call id_ip4_Parse [(.tmp 30)]⟩,
  ⟨(some 29), none, .mov (.tmp 31)⟩,
  ⟨(some 32), none, .extract (.tmp 29) 0⟩,
  ⟨(some 33), none, .extract (.tmp 29) 1⟩,
  ⟨(some 7), none, .alloc (LV.agg [(LV.int .i64 0), (LV.int .i64 0), (LV.int .i64 0), (LV.int .i64 0), (LV.int .i64 0), (LV.bool false), (LV.bool false), (LV.bytes [0, 0, 0, 0]), (LV.bytes [0, 0, 0, 0]), (LV.str []), (LV.str [])])⟩,
  ⟨none, none, .store 17 true (.tmp 7) (.tmp 32)⟩,
  ⟨(some 8), none, .mov (.tmp 33)⟩] []) (.seq (.reg [
  ⟨(some 34), none, .mov (.tmp 6)⟩,
  ⟨(some 35), none, .eqNil 1 false (.tmp 34)⟩,
  ⟨(some 36), none, .mov (.tmp 35)⟩,
  ⟨(some 37), (some (36, true)), .mov (.tmp 8)⟩,
  ⟨(some 38), (some (36, true)), .eqNil 1 false (.tmp 37)⟩,
  ⟨(some 39), none, .pick (.tmp 36) (.tmp 38) (.cst (LV.bool false))⟩,
  ⟨(some 40), none, .mov (.tmp 39)⟩,
  ⟨(some 41), (some (40, true)), .load 17 true (.tmp 3)⟩,
  ⟨(some 42), (some (40, true)), .load 17 true (.tmp 7)⟩,
  ⟨(some 43), (some (40, true)), .eqS (Sh.agg [(Sh.int .i64), (Sh.int .i64), (Sh.int .i64), (Sh.int .i64), (Sh.int .i64), Sh.bool, Sh.bool, (Sh.bytes 4), (Sh.bytes 4), Sh.str, Sh.str]) false (.tmp 41) (.tmp 42)⟩,
  ⟨(some 44), none, .pick (.tmp 40) (.tmp 43) (.cst (LV.bool false))⟩,
  ⟨(some 45), none, .mov (.tmp 44)⟩,
  ⟨(some 46), (some (45, true)), .mov (.tmp 5)⟩,
  ⟨(some 47), (some (45, true)), .len true (.tmp 46)⟩,
  ⟨(some 48), (some (45, true)), .mov (.tmp 0)⟩,
  ⟨(some 49), (some (45, true)), .len true (.tmp 48)⟩,
  ⟨(some 50), (some (45, true)), .bin .leq (.tmp 47) (.tmp 49)⟩,
  ⟨(some 51), none, .pick (.tmp 45) (.tmp 50) (.cst (LV.bool false))⟩,
  ⟨(some 52), none, .mov (.tmp 51)⟩,
  ⟨(some 53), (some (52, true)), .mov (.tmp 5)⟩,
  ⟨(some 54), (some (52, true)), .slc 0 (.tmp 53) none (some (.cst (LV.int .i64 10)))⟩,
  ⟨(some 55), (some (52, true)), .mov (.tmp 0)⟩,
  ⟨(some 56), (some (52, true)), .slc 0 (.tmp 55) none (some (.cst (LV.int .i64 10)))⟩,
  ⟨(some 57), (some (52, true)), .bin .eql (.tmp 54) (.tmp 56)⟩,
  ⟨(some 58), none, .pick (.tmp 52) (.tmp 57) (.cst (LV.bool false))⟩,
  ⟨(some 59), none, .mov (.tmp 58)⟩,
  ⟨(some 60), (some (59, true)), .mov (.tmp 5)⟩,
  ⟨(some 61), (some (59, true)), .slc 0 (.tmp 60) (some (.cst (LV.int .i64 12))) none⟩,
  ⟨(some 62), (some (59, true)), .mov (.tmp 0)⟩,
  ⟨(some 63), (some (59, true)), .mov (.tmp 5)⟩,
  ⟨(some 64), (some (59, true)), .len true (.tmp 63)⟩,
  ⟨(some 65), (some (59, true)), .slc 0 (.tmp 62) (some (.cst (LV.int .i64 12))) (some (.tmp 64))⟩,
  ⟨(some 66), (some (59, true)), .bin .eql (.tmp 61) (.tmp 65)⟩,
  ⟨(some 67), none, .pick (.tmp 59) (.tmp 66) (.cst (LV.bool false))⟩,
  ⟨(some 2), none, .mov (.tmp 67)⟩] []) .ret)))))))), [.tmp 2]⟩
/-- interpreter/interpreterlaw03.Ip4Fields -/
def c_interpreterlaw03_Ip4Fields : MFn := ⟨2, 144, (.seq (.reg [
  ⟨(some 2), none, .box (.tmp 0)⟩,
  ⟨(some 4), none, .mov (.cst (LV.bool false))⟩] []) (.seq (.seq (.reg [
  ⟨(some 13), none, .call id_interpreterlaw03_awake []⟩,
  ⟨(some 14), none, .un .not (.tmp 13)⟩] []) (.cond (.tmp 14) (.seq (.reg [
  ⟨(some 4), none, .mov (.cst (LV.bool false))⟩] []) .ret) .skip)) (.seq (.seq (.reg [
  ⟨(some 15), none, .fieldAddr 10 16 (.tmp 2)⟩,
  ⟨(some 16), none, .load 1 false (.tmp 15)⟩,
  ⟨(some 17), none, .len true (.tmp 16)⟩,
  ⟨(some 18), none, .bin .gtr (.tmp 17) (.cst (LV.int .i64 70000))⟩,
  ⟨(some 19), none, .mov (.tmp 18)⟩,
  ⟨(some 20), (some (19, false)), .fieldAddr 9 15 (.tmp 2)⟩,
  ⟨(some 21), (some (19, false)), .load 1 false (.tmp 20)⟩,
  ⟨(some 22), (some (19, false)), .len true (.tmp 21)⟩,
  ⟨(some 23), (some (19, false)), .bin .gtr (.tmp 22) (.cst (LV.int .i64 1000))⟩,
  ⟨(some 24), none, .pick (.tmp 19) (.cst (LV.bool true)) (.tmp 23)⟩] []) (.cond (.tmp 24) (.seq (.reg [
  ⟨(some 4), none, .mov (.cst (LV.bool true))⟩] []) .ret) .skip)) (.seq (.reg [
  ⟨(some 26), none, .load 17 true (.tmp 2)⟩,
  ⟨(some 27), none, .call id_ip4_Bytes [(.tmp 26)]⟩,
  ⟨(some 25), none, .mov (.tmp 27)⟩,
  ⟨(some 28), none, .extract (.tmp 25) 0⟩,
  ⟨(some 29), none, .extract (.tmp 25) 1⟩,
  ⟨(some 5), none, .mov (.tmp 28)⟩,
  ⟨(some 6), none, .mov (.tmp 29)⟩] []) (.seq (.reg [
  ⟨(some 30), none, .load 17 true (.tmp 2)⟩,
  ⟨(some 7), none, .alloc (LV.agg [(LV.int .i64 0), (LV.int .i64 0), (LV.int .i64 0), (LV.int .i64 0), (LV.int .i64 0), (LV.bool false), (LV.bool false), (LV.bytes [0, 0, 0, 0]), (LV.bytes [0, 0, 0, 0]), (LV.str []), (LV.str [])])⟩,
  ⟨none, none, .store 17 true (.tmp 7) (.tmp 30)⟩] []) (.seq (.reg [
  ⟨(some 31), none, .mov (.tmp 1)⟩,
  ⟨(some 32), none, .conv .i64 (.tmp 31)⟩,
  ⟨(some 33), none, .fieldAddr 2 2 (.tmp 7)⟩,
  ⟨none, none, .store 1 false (.tmp 33) (.tmp 32)⟩] []) (.seq (.reg [
  ⟨(some 35), none, .load 17 true (.tmp 7)⟩,
  ⟨(some 36), none, .call id_ip4_Bytes [(.tmp 35)]⟩,
  ⟨(some 34), none, .mov (.tmp 36)⟩,
  ⟨(some 37), none, .extract (.tmp 34) 0⟩,
  ⟨(some 38), none, .extract (.tmp 34) 1⟩,
  ⟨(some 8), none, .mov (.tmp 37)⟩,
  ⟨(some 9), none, .mov (.tmp 38)⟩] []) (.seq (.reg [
  ⟨(some 39), none, .load 17 true (.tmp 2)⟩,
  ⟨(some 10), none, .alloc (LV.agg [(LV.int .i64 0), (LV.int .i64 0), (LV.int .i64 0), (LV.int .i64 0), (LV.int .i64 0), (LV.bool false), (LV.bool false), (LV.bytes [0, 0, 0, 0]), (LV.bytes [0, 0, 0, 0]), (LV.str []), (LV.str [])])⟩,
  ⟨none, none, .store 17 true (.tmp 10) (.tmp 39)⟩] []) (.seq (.reg [
  ⟨(some 40), none, .fieldAddr 8 11 (.tmp 2)⟩,
  ⟨(some 41), none, .load 4 true (.tmp 40)⟩,
  ⟨(some 42), none, .fieldAddr 7 7 (.tmp 2)⟩,
  ⟨(some 43), none, .load 4 true (.tmp 42)⟩,
  ⟨(some 44), none, .fieldAddr 7 7 (.tmp 10)⟩,
  ⟨none, none, .store 4 true (.tmp 44) (.tmp 41)⟩,
  ⟨(some 45), none, .fieldAddr 8 11 (.tmp 10)⟩,
  ⟨none, none, .store 4 true (.tmp 45) (.tmp 43)⟩] [((.tmp 42), (.tmp 44))]) (.seq (.reg [
  ⟨(some 47), none, .load 17 true (.tmp 10)⟩,
  ⟨(some 48), none, .call id_ip4_Bytes [(.tmp 47)]⟩,
  ⟨(some 46), none, .mov (.tmp 48)⟩,
  ⟨(some 49), none, .extract (.tmp 46) 0⟩,
  ⟨(some 50), none, .extract (.tmp 46) 1⟩,
  ⟨(some 11), none, .mov (.tmp 49)⟩,
  ⟨(some 12), none, .mov (.tmp 50)⟩] []) (.seq (.seq (.reg [
  ⟨(some 51), none, .mov (.tmp 6)⟩,
  ⟨(some 52), none, .eqNil 1 true (.tmp 51)⟩,
  ⟨(some 53), none, .mov (.tmp 52)⟩,
  ⟨(some 54), (some (53, false)), .mov (.tmp 9)⟩,
  ⟨(some 55), (some (53, false)), .eqNil 1 true (.tmp 54)⟩,
  ⟨(some 56), none, .pick (.tmp 53) (.cst (LV.bool true)) (.tmp 55)⟩,
  ⟨(some 57), none, .mov (.tmp 56)⟩,
  ⟨(some 58), (some (57, false)), .mov (.tmp 12)⟩,
  ⟨(some 59), (some (57, false)), .eqNil 1 true (.tmp 58)⟩,
  ⟨(some 60), none, .pick (.tmp 57) (.cst (LV.bool true)) (.tmp 59)⟩] []) (.cond (.tmp 60) (.seq (.reg [
  ⟨(some 61), none, .mov (.tmp 6)⟩,
  ⟨(some 62), none, .eqNil 1 false (.tmp 61)⟩,
  ⟨(some 63), none, .mov (.tmp 12)⟩,
  ⟨(some 64), none, .eqNil 1 false (.tmp 63)⟩,
  ⟨(some 65), none, .eqB false (.tmp 62) (.tmp 64)⟩,
  ⟨(some 66), none, .mov (.tmp 65)⟩,
  ⟨(some 67), (some (66, true)), .mov (.tmp 6)⟩,
  ⟨(some 68), (some (66, true)), .eqNil 1 true (.tmp 67)⟩,
  ⟨(some 69), (some (66, true)), .mov (.tmp 68)⟩,
  ⟨(some 70), (some (69, false)), .mov (.tmp 9)⟩,
  ⟨(some 71), (some (69, false)), .eqNil 1 false (.tmp 70)⟩,
  ⟨(some 72), (some (66, true)), .pick (.tmp 69) (.cst (LV.bool true)) (.tmp 71)⟩,
  ⟨(some 73), none, .pick (.tmp 66) (.tmp 72) (.cst (LV.bool false))⟩,
  ⟨(some 4), none, .mov (.tmp 73)⟩] []) .ret) .skip)) (.seq (.seq (.reg [
  ⟨(some 74), none, .mov (.tmp 5)⟩,
  ⟨(some 75), none, .len true (.tmp 74)⟩,
  ⟨(some 76), none, .bin .lss (.tmp 75) (.cst (LV.int .i64 20))⟩,
  ⟨(some 77), none, .mov (.tmp 76)⟩,
  ⟨(some 78), (some (77, false)), .mov (.tmp 5)⟩,
  ⟨(some 79), (some (77, false)), .len true (.tmp 78)⟩,
  ⟨(some 80), (some (77, false)), .mov (.tmp 8)⟩,
  ⟨(some 81), (some (77, false)), .len true (.tmp 80)⟩,
  ⟨(some 82), (some (77, false)), .bin .neq (.tmp 79) (.tmp 81)⟩,
  ⟨(some 83), none, .pick (.tmp 77) (.cst (LV.bool true)) (.tmp 82)⟩,
  ⟨(some 84), none, .mov (.tmp 83)⟩,
  ⟨(some 85), (some (84, false)), .mov (.tmp 5)⟩,
  ⟨(some 86), (some (84, false)), .len true (.tmp 85)⟩,
  ⟨(some 87), (some (84, false)), .mov (.tmp 11)⟩,
  ⟨(some 88), (some (84, false)), .len true (.tmp 87)⟩,
  ⟨(some 89), (some (84, false)), .bin .neq (.tmp 86) (.tmp 88)⟩,
  ⟨(some 90), none, .pick (.tmp 84) (.cst (LV.bool true)) (.tmp 89)⟩] []) (.cond (.tmp 90) (.seq (.reg [
  ⟨(some 4), none, .mov (.cst (LV.bool false))⟩] []) .ret) .skip)) (.seq (.reg [
  ⟨(some 91), none, .mov (.tmp 5)⟩,
  ⟨(some 92), none, .slc 0 (.tmp 91) none (some (.cst (LV.int .i64 8)))⟩,
  ⟨(some 93), none, .mov (.tmp 8)⟩,
  ⟨(some 94), none, .slc 0 (.tmp 93) none (some (.cst (LV.int .i64 8)))⟩,
  ⟨(some 95), none, .bin .eql (.tmp 92) (.tmp 94)⟩,
  ⟨(some 96), none, .mov (.tmp 95)⟩,
  ⟨(some 97), (some (96, true)), .mov (.tmp 5)⟩,
  ⟨(some 98), (some (96, true)), .idxStr (.tmp 97) (.cst (LV.int .i64 9))⟩,
  ⟨(some 99), (some (96, true)), .mov (.tmp 8)⟩,
  ⟨(some 100), (some (96, true)), .idxStr (.tmp 99) (.cst (LV.int .i64 9))⟩,
  ⟨(some 101), (some (96, true)), .bin .eql (.tmp 98) (.tmp 100)⟩,
  ⟨(some 102), none, .pick (.tmp 96) (.tmp 101) (.cst (LV.bool false))⟩,
  ⟨(some 103), none, .mov (.tmp 102)⟩,
  ⟨(some 104), (some (103, true)), .mov (.tmp 5)⟩,
  ⟨(some 105), (some (103, true)), .slc 0 (.tmp 104) (some (.cst (LV.int .i64 12))) none⟩,
  ⟨(some 106), (some (103, true)), .mov (.tmp 8)⟩,
  ⟨(some 107), (some (103, true)), .slc 0 (.tmp 106) (some (.cst (LV.int .i64 12))) none⟩,
  ⟨(some 108), (some (103, true)), .bin .eql (.tmp 105) (.tmp 107)⟩,
  ⟨(some 109), none, .pick (.tmp 103) (.tmp 108) (.cst (LV.bool false))⟩,
  ⟨(some 110), none, .mov (.tmp 109)⟩,
  ⟨(some 111), (some (110, true)), .mov (.tmp 8)⟩,
  ⟨(some 112), (some (110, true)), .idxStr (.tmp 111) (.cst (LV.int .i64 8))⟩,
  ⟨(some 113), (some (110, true)), .mov (.tmp 1)⟩,
  ⟨(some 114), (some (110, true)), .bin .eql (.tmp 112) (.tmp 113)⟩,
  ⟨(some 115), none, .pick (.tmp 110) (.tmp 114) (.cst (LV.bool false))⟩,
  ⟨(some 116), none, .mov (.tmp 115)⟩,
  ⟨(some 117), (some (116, true)), .mov (.tmp 5)⟩,
  ⟨(some 118), (some (116, true)), .slc 0 (.tmp 117) none (some (.cst (LV.int .i64 12)))⟩,
  ⟨(some 119), (some (116, true)), .mov (.tmp 11)⟩,
  ⟨(some 120), (some (116, true)), .slc 0 (.tmp 119) none (some (.cst (LV.int .i64 12)))⟩,
  ⟨(some 121), (some (116, true)), .bin .eql (.tmp 118) (.tmp 120)⟩,
  ⟨(some 122), none, .pick (.tmp 116) (.tmp 121) (.cst (LV.bool false))⟩,
  ⟨(some 123), none, .mov (.tmp 122)⟩,
  ⟨(some 124), (some (123, true)), .mov (.tmp 5)⟩,
  ⟨(some 125), (some (123, true)), .slc 0 (.tmp 124) (some (.cst (LV.int .i64 12))) (some (.cst (LV.int .i64 16)))⟩,
  ⟨(some 126), (some (123, true)), .mov (.tmp 11)⟩,
  ⟨(some 127), (some (123, true)), .slc 0 (.tmp 126) (some (.cst (LV.int .i64 16))) (some (.cst (LV.int .i64 20)))⟩,
  ⟨(some 128), (some (123, true)), .bin .eql (.tmp 125) (.tmp 127)⟩,
  ⟨(some 129), none, .pick (.tmp 123) (.tmp 128) (.cst (LV.bool false))⟩,
  ⟨(some 130), none, .mov (.tmp 129)⟩,
  ⟨(some 131), (some (130, true)), .mov (.tmp 5)⟩,
  ⟨(some 132), (some (130, true)), .slc 0 (.tmp 131) (some (.cst (LV.int .i64 16))) (some (.cst (LV.int .i64 20)))⟩,
  ⟨(some 133), (some (130, true)), .mov (.tmp 11)⟩,
  ⟨(some 134), (some (130, true)), .slc 0 (.tmp 133) (some (.cst (LV.int .i64 12))) (some (.cst (LV.int .i64 16)))⟩,
  ⟨(some 135), (some (130, true)), .bin .eql (.tmp 132) (.tmp 134)⟩,
  ⟨(some 136), none, .pick (.tmp 130) (.tmp 135) (.cst (LV.bool false))⟩,
  ⟨(some 137), none, .mov (.tmp 136)⟩,
  ⟨(some 138), (some (137, true)), .mov (.tmp 5)⟩,
  ⟨(some 139), (some (137, true)), .slc 0 (.tmp 138) (some (.cst (LV.int .i64 20))) none⟩,
  ⟨(some 140), (some (137, true)), .mov (.tmp 11)⟩,
  ⟨(some 141), (some (137, true)), .slc 0 (.tmp 140) (some (.cst (LV.int .i64 20))) none⟩,
  ⟨(some 142), (some (137, true)), .bin .eql (.tmp 139) (.tmp 141)⟩,
  ⟨(some 143), none, .pick (.tmp 137) (.tmp 142) (.cst (LV.bool false))⟩,
  ⟨(some 4), none, .mov (.tmp 143)⟩] []) .ret))))))))))))), [.tmp 4]⟩
/-- interpreter/interpreterlaw03.Ip4Cut -/
def c_interpreterlaw03_Ip4Cut : MFn := ⟨3, 101, (.seq (.reg [
  ⟨(some 3), none, .box (.tmp 0)⟩,
  ⟨(some 6), none, .mov (.cst (LV.bool false))⟩] []) (.seq (.seq (.reg [
  ⟨(some 14), none, .call id_interpreterlaw03_awake []⟩,
  ⟨(some 15), none, .un .not (.tmp 14)⟩] []) (.cond (.tmp 15) (.seq (.reg [
  ⟨(some 6), none, .mov (.cst (LV.bool false))⟩] []) .ret) .skip)) (.seq (.seq (.reg [
  ⟨(some 16), none, .fieldAddr 10 16 (.tmp 3)⟩,
  ⟨(some 17), none, .load 1 false (.tmp 16)⟩,
  ⟨(some 18), none, .len true (.tmp 17)⟩,
  ⟨(some 19), none, .bin .gtr (.tmp 18) (.cst (LV.int .i64 70000))⟩,
  ⟨(some 20), none, .mov (.tmp 19)⟩,
  ⟨(some 21), (some (20, false)), .fieldAddr 9 15 (.tmp 3)⟩,
  ⟨(some 22), (some (20, false)), .load 1 false (.tmp 21)⟩,
  ⟨(some 23), (some (20, false)), .len true (.tmp 22)⟩,
  ⟨(some 24), (some (20, false)), .bin .gtr (.tmp 23) (.cst (LV.int .i64 1000))⟩,
  ⟨(some 25), none, .pick (.tmp 20) (.cst (LV.bool true)) (.tmp 24)⟩] []) (.cond (.tmp 25) (.seq (.reg [
  ⟨(some 6), none, .mov (.cst (LV.bool true))⟩] []) .ret) .skip)) (.seq (.reg [
  ⟨(some 27), none, .load 17 true (.tmp 3)⟩,
  ⟨(some 28), none, .call id_ip4_Bytes [(.tmp 27)]⟩,
  ⟨(some 26), none, .mov (.tmp 28)⟩,
  ⟨(some 29), none, .extract (.tmp 26) 0⟩,
  ⟨(some 30), none, .extract (.tmp 26) 1⟩,
  ⟨(some 7), none, .mov (.tmp 29)⟩,
  ⟨(some 8), none, .mov (.tmp 30)⟩] []) (.seq (.seq (.reg [
  ⟨(some 31), none, .mov (.tmp 8)⟩,
  ⟨(some 32), none, .eqNil 1 true (.tmp 31)⟩,
  ⟨(some 33), none, .mov (.tmp 32)⟩,
  ⟨(some 34), (some (33, false)), .mov (.tmp 7)⟩,
  ⟨(some 35), (some (33, false)), .len true (.tmp 34)⟩,
  ⟨(some 36), (some (33, false)), .bin .eql (.tmp 35) (.cst (LV.int .i64 0))⟩,
  ⟨(some 37), none, .pick (.tmp 33) (.cst (LV.bool true)) (.tmp 36)⟩] []) (.cond (.tmp 37) (.seq (.reg [
  ⟨(some 38), none, .mov (.tmp 8)⟩,
  ⟨(some 39), none, .eqNil 1 true (.tmp 38)⟩,
  ⟨(some 6), none, .mov (.tmp 39)⟩] []) .ret) .skip)) (.seq (.reg [
  ⟨(some 41), none, .mov (.tmp 7)⟩,
  ⟨(some 42), none, .mov (.tmp 1)⟩,
  ⟨(some 43), none, .conv .i64 (.tmp 42)⟩,
  ⟨(some 44), none, .mov (.tmp 7)⟩,
  ⟨(some 45), none, .len true (.tmp 44)⟩,
  ⟨(some 46), none, .bin .rem (.tmp 43) (.tmp 45)⟩,
  ⟨(some 47), none, .slc 0 (.tmp 41) none (some (.tmp 46))⟩,
  ⟨(some 48), none, .call id_ip4_Parse [(.tmp 47)]⟩,
  ⟨(some 40), none, .mov (.tmp 48)⟩,
  ⟨(some 49), none, .extract (.tmp 40) 0⟩,
  ⟨(some 50), none, .extract (.tmp 40) 1⟩,
  ⟨(some 9), none, .alloc (LV.agg [(LV.int .i64 0), (LV.int .i64 0), (LV.int .i64 0), (LV.int .i64 0), (LV.int .i64 0), (LV.bool false), (LV.bool false), (LV.bytes [0, 0, 0, 0]), (LV.bytes [0, 0, 0, 0]), (LV.str []), (LV.str [])])⟩,
  ⟨none, none, .store 17 true (.tmp 9) (.tmp 49)⟩,
  ⟨(some 10), none, .mov (.tmp 50)⟩] []) (.seq (.reg [
  ⟨(some 51), none, .load 17 true (.tmp 3)⟩,
  ⟨(some 11), none, .alloc (LV.agg [(LV.int .i64 0), (LV.int .i64 0), (LV.int .i64 0), (LV.int .i64 0), (LV.int .i64 0), (LV.bool false), (LV.bool false), (LV.bytes [0, 0, 0, 0]), (LV.bytes [0, 0, 0, 0]), (LV.str []), (LV.str [])])⟩,
  ⟨none, none, .store 17 true (.tmp 11) (.tmp 51)⟩] []) (.seq (.reg [
  ⟨(some 52), none, .fieldAddr 6 6 (.tmp 11)⟩,
  ⟨none, none, .store 1 false (.tmp 52) (.cst (LV.bool false))⟩] []) (.seq (.reg [
  ⟨(some 53), none, .fieldAddr 10 16 (.tmp 3)⟩,
  ⟨(some 54), none, .load 1 false (.tmp 53)⟩,
  ⟨(some 55), none, .mov (.tmp 2)⟩,
  ⟨(some 56), none, .bsl (LV.int .u8 0) 1 [(0, (.tmp 55))]⟩,
  ⟨(some 57), none, .b2s (.tmp 56)⟩,
  ⟨(some 58), none, .bin .add (.tmp 54) (.tmp 57)⟩,
  ⟨(some 59), none, .fieldAddr 10 16 (.tmp 11)⟩,
  ⟨none, none, .store 1 false (.tmp 59) (.tmp 58)⟩] []) (.seq (.reg [
  ⟨(some 61), none, .load 17 true (.tmp 11)⟩,
  ⟨(some 62), none, .call id_ip4_Bytes [(.tmp 61)]⟩,
  ⟨(some 60), none, .mov (.tmp 62)⟩,
  ⟨(some 63), none, .extract (.tmp 60) 0⟩,
  ⟨(some 64), none, .extract (.tmp 60) 1⟩,
  ⟨(some 12), none, .mov (.tmp 63)⟩,
  ⟨(some 13), none, .mov (.tmp 64)⟩] []) (.seq (.reg [
  ⟨(some 65), none, .mov (.tmp 10)⟩,
  ⟨(some 66), none, .eqNil 1 true (.tmp 65)⟩,
  ⟨(some 67), none, .mov (.tmp 66)⟩,
  ⟨(some 68), (some (67, true)), .mov (.tmp 13)⟩,
  ⟨(some 69), (some (67, true)), .eqNil 1 true (.tmp 68)⟩,
  ⟨(some 70), (some (67, true)), .mov (.tmp 69)⟩,
  ⟨(some 71), (some (70, true)), .mov (.tmp 7)⟩,
  ⟨(some 72), (some (70, true)), .len true (.tmp 71)⟩,
  ⟨(some 73), (some (70, true)), .fieldAddr 4 4 (.tmp 3)⟩,
  ⟨(some 74), (some (70, true)), .load 1 false (.tmp 73)⟩,
  ⟨(some 75), (some (70, true)), .bin .add (.tmp 72) (.tmp 74)⟩,
  ⟨(some 76), (some (70, true)), .bin .add (.tmp 75) (.cst (LV.int .i64 1))⟩,
  ⟨(some 77), (some (70, true)), .bin .gtr (.tmp 76) (.cst (LV.int .i64 65535))⟩,
  ⟨(some 78), (some (67, true)), .pick (.tmp 70) (.tmp 77) (.cst (LV.bool false))⟩,
  ⟨(some 79), (some (67, true)), .mov (.tmp 78)⟩,
  ⟨(some 80), (some (79, false)), .mov (.tmp 13)⟩,
  ⟨(some 81), (some (79, false)), .eqNil 1 false (.tmp 80)⟩,
  ⟨(some 82), (some (79, false)), .mov (.tmp 81)⟩,
  ⟨(some 83), (some (82, true)), .mov (.tmp 12)⟩,
  ⟨(some 84), (some (82, true)), .len true (.tmp 83)⟩,
  ⟨(some 85), (some (82, true)), .mov (.tmp 7)⟩,
  ⟨(some 86), (some (82, true)), .len true (.tmp 85)⟩,
  ⟨(some 87), (some (82, true)), .bin .add (.tmp 86) (.cst (LV.int .i64 1))⟩,
  ⟨(some 88), (some (82, true)), .bin .eql (.tmp 84) (.tmp 87)⟩,
  ⟨(some 89), (some (79, false)), .pick (.tmp 82) (.tmp 88) (.cst (LV.bool false))⟩,
  ⟨(some 90), (some (79, false)), .mov (.tmp 89)⟩,
  ⟨(some 91), (some (90, true)), .mov (.tmp 12)⟩,
  ⟨(some 92), (some (90, true)), .mov (.tmp 12)⟩,
  ⟨(some 93), (some (90, true)), .len true (.tmp 92)⟩,
  ⟨(some 94), (some (90, true)), .bin .sub (.tmp 93) (.cst (LV.int .i64 1))⟩,
  ⟨(some 95), (some (90, true)), .idxStr (.tmp 91) (.tmp 94)⟩,
  ⟨(some 96), (some (90, true)), .mov (.tmp 2)⟩,
  ⟨(some 97), (some (90, true)), .bin .eql (.tmp 95) (.tmp 96)⟩,
  ⟨(some 98), (some (79, false)), .pick (.tmp 90) (.tmp 97) (.cst (LV.bool false))⟩,
  ⟨(some 99), (some (67, true)), .pick (.tmp 79) (.cst (LV.bool true)) (.tmp 98)⟩,
  ⟨(some 100), none, .pick (.tmp 67) (.tmp 99) (.cst (LV.bool false))⟩,
  ⟨(some 6), none, .mov (.tmp 100)⟩] []) .ret))))))))))), [.tmp 6]⟩
/-- interpreter/interpreterlaw03.Ip4Routes -/
def c_interpreterlaw03_Ip4Routes : MFn := ⟨1, 30, (.seq (.reg [
  ⟨(some 2), none, .mov (.cst (LV.bool false))⟩] []) (.seq (.seq (.reg [
  ⟨(some 7), none, .call id_interpreterlaw03_awake []⟩,
  ⟨(some 8), none, .un .not (.tmp 7)⟩] []) (.cond (.tmp 8) (.seq (.reg [
  ⟨(some 2), none, .mov (.cst (LV.bool false))⟩] []) .ret) .skip)) (.seq (.seq (.reg [
  ⟨(some 9), none, .mov (.tmp 0)⟩,
  ⟨(some 10), none, .len true (.tmp 9)⟩,
  ⟨(some 11), none, .bin .gtr (.tmp 10) (.cst (LV.int .i64 3000))⟩] []) (.cond (.tmp 11) (.seq (.reg [
  ⟨(some 2), none, .mov (.cst (LV.bool true))⟩] []) .ret) .skip)) (.seq (.reg [
  ⟨(some 13), none, .mov (.tmp 0)⟩,
  ⟨(some 14), none, .call id_ip4_Routed [(.tmp 13)]⟩,
  ⟨(some 12), none, .mov (.tmp 14)⟩,
  ⟨(some 15), none, .extract (.tmp 12) 0⟩,
  ⟨(some 16), none, .extract (.tmp 12) 1⟩,
  ⟨(some 3), none, .mov (.tmp 15)⟩,
  ⟨(some 4), none, .mov (.tmp 16)⟩] []) (.seq (.reg [
  ⟨(some 18), none, .mov (.tmp 0)⟩,
  ⟨(some 19), none, .call id_interpreterref03_Routed [(.tmp 18)]⟩,
  ⟨(some 17), none, .mov (.tmp 19)⟩,
  ⟨(some 20), none, .extract (.tmp 17) 0⟩,
  ⟨(some 21), none, .extract (.tmp 17) 1⟩,
  ⟨(some 5), none, .mov (.tmp 20)⟩,
  ⟨(some 6), none, .mov (.tmp 21)⟩] []) (.seq (.reg [
  ⟨(some 22), none, .mov (.tmp 3)⟩,
  ⟨(some 23), none, .mov (.tmp 5)⟩,
  ⟨(some 24), none, .eqB false (.tmp 22) (.tmp 23)⟩,
  ⟨(some 25), none, .mov (.tmp 24)⟩,
  ⟨(some 26), (some (25, true)), .mov (.tmp 4)⟩,
  ⟨(some 27), (some (25, true)), .mov (.tmp 6)⟩,
  ⟨(some 28), (some (25, true)), .call id_interpreterlaw03_same [(.tmp 26), (.tmp 27)]⟩,
  ⟨(some 29), none, .pick (.tmp 25) (.tmp 28) (.cst (LV.bool false))⟩,
  ⟨(some 2), none, .mov (.tmp 29)⟩] []) .ret)))))), [.tmp 2]⟩
/-- interpreter/interpreterlaw03.Ip4Used -/
def c_interpreterlaw03_Ip4Used : MFn := ⟨3, 76, (.seq (.reg [
  ⟨(some 6), none, .mov (.cst (LV.bool false))⟩] []) (.seq (.seq (.reg [
  ⟨(some 15), none, .call id_interpreterlaw03_awake []⟩,
  ⟨(some 16), none, .un .not (.tmp 15)⟩] []) (.cond (.tmp 16) (.seq (.reg [
  ⟨(some 6), none, .mov (.cst (LV.bool false))⟩] []) .ret) .skip)) (.seq (.seq (.reg [
  ⟨(some 17), none, .mov (.tmp 0)⟩,
  ⟨(some 18), none, .len true (.tmp 17)⟩,
  ⟨(some 19), none, .bin .gtr (.tmp 18) (.cst (LV.int .i64 200))⟩] []) (.cond (.tmp 19) (.seq (.reg [
  ⟨(some 6), none, .mov (.cst (LV.bool true))⟩] []) .ret) .skip)) (.seq (.reg [
  ⟨(some 7), none, .mov (.cst (LV.str []))⟩] []) (.seq (.seq (.reg [
  ⟨(some 8), none, .mov (.cst (LV.int .i64 0))⟩] []) (.block 0 (.loop [7, 8] [20, 21, 22, 23, 26, 27, 24, 25] (.seq (.seq (.reg [
  ⟨(some 20), none, .mov (.tmp 8)⟩,
  ⟨(some 21), none, .mov (.tmp 1)⟩,
  ⟨(some 22), none, .conv .i64 (.tmp 21)⟩,
  ⟨(some 23), none, .bin .lss (.tmp 20) (.tmp 22)⟩] []) (.cond (.tmp 23) .skip (.exit 0))) (.seq (.block 1 (.reg [
  ⟨(some 26), none, .mov (.tmp 7)⟩,
  ⟨(some 27), none, .bin .add (.tmp 26) (.cst (LV.str [1]))⟩,
  ⟨(some 7), none, .mov (.tmp 27)⟩] [])) (.reg [
  ⟨(some 24), none, .mov (.tmp 8)⟩,
  ⟨(some 25), none, .bin .add (.tmp 24) (.cst (LV.int .i64 1))⟩,
  ⟨(some 8), none, .mov (.tmp 25)⟩] [])))))) (.seq (.reg [
  ⟨(some 29), none, .mov (.tmp 7)⟩,
  ⟨(some 30), none, .bin .add (.tmp 29) (.cst (LV.str [137, 7]))⟩,
  ⟨(some 31), none, .mov (.tmp 2)⟩,
  ⟨(some 32), none, .bsl (LV.int .u8 0) 1 [(0, (.tmp 31))]⟩,
  ⟨(some 33), none, .b2s (.tmp 32)⟩,
  ⟨(some 34), none, .bin .add (.tmp 30) (.tmp 33)⟩,
  ⟨(some 35), none, .bin .add (.tmp 34) (.cst (LV.str [97, 98, 99, 100]))⟩,
  ⟨(some 36), none, .call id_ip4_Routed [(.tmp 35)]⟩,
  ⟨(some 28), none, .mov (.tmp 36)⟩,
  ⟨(some 37), none, .extract (.tmp 28) 0⟩,
  ⟨(some 38), none, .extract (.tmp 28) 1⟩,
  ⟨(some 9), none, .mov (.tmp 37)⟩,
  ⟨(some 10), none, .mov (.tmp 38)⟩] []) (.seq (.reg [
  ⟨(some 40), none, .mov (.tmp 7)⟩,
  ⟨(some 41), none, .bin .add (.tmp 40) (.cst (LV.str [0]))⟩,
  ⟨(some 42), none, .mov (.tmp 0)⟩,
  ⟨(some 43), none, .bin .add (.tmp 41) (.tmp 42)⟩,
  ⟨(some 44), none, .call id_ip4_Routed [(.tmp 43)]⟩,
  ⟨(some 39), none, .mov (.tmp 44)⟩,
  ⟨(some 45), none, .extract (.tmp 39) 0⟩,
  ⟨(some 46), none, .extract (.tmp 39) 1⟩,
  ⟨(some 11), none, .mov (.tmp 45)⟩,
  ⟨(some 12), none, .mov (.tmp 46)⟩] []) (.seq (.reg [
  ⟨(some 48), none, .mov (.tmp 7)⟩,
  ⟨(some 49), none, .call id_ip4_Routed [(.tmp 48)]⟩,
  ⟨(some 47), none, .mov (.tmp 49)⟩,
  ⟨(some 50), none, .extract (.tmp 47) 0⟩,
  ⟨(some 51), none, .extract (.tmp 47) 1⟩,
  ⟨(some 13), none, .mov (.tmp 50)⟩,
  ⟨(some 14), none, .mov (.tmp 51)⟩] []) (.seq (.reg [
  ⟨(some 52), none, .mov (.tmp 10)⟩,
  ⟨(some 53), none, .eqNil 1 false (.tmp 52)⟩,
  ⟨(some 54), none, .mov (.tmp 53)⟩,
  ⟨(some 55), (some (54, true)), .mov (.tmp 9)⟩,
  ⟨(some 56), (some (54, true)), .mov (.tmp 2)⟩,
  ⟨(some 57), (some (54, true)), .bin .leq (.tmp 56) (.cst (LV.int .u8 7))⟩,
  ⟨(some 58), (some (54, true)), .eqB false (.tmp 55) (.tmp 57)⟩,
  ⟨(some 59), none, .pick (.tmp 54) (.tmp 58) (.cst (LV.bool false))⟩,
  ⟨(some 60), none, .mov (.tmp 59)⟩,
  ⟨(some 61), (some (60, true)), .mov (.tmp 12)⟩,
  ⟨(some 62), (some (60, true)), .eqNil 1 false (.tmp 61)⟩,
  ⟨(some 63), none, .pick (.tmp 60) (.tmp 62) (.cst (LV.bool false))⟩,
  ⟨(some 64), none, .mov (.tmp 63)⟩,
  ⟨(some 65), (some (64, true)), .mov (.tmp 11)⟩,
  ⟨(some 66), (some (64, true)), .un .not (.tmp 65)⟩,
  ⟨(some 67), none, .pick (.tmp 64) (.tmp 66) (.cst (LV.bool false))⟩,
  ⟨(some 68), none, .mov (.tmp 67)⟩,
  ⟨(some 69), (some (68, true)), .mov (.tmp 14)⟩,
  ⟨(some 70), (some (68, true)), .eqNil 1 false (.tmp 69)⟩,
  ⟨(some 71), none, .pick (.tmp 68) (.tmp 70) (.cst (LV.bool false))⟩,
  ⟨(some 72), none, .mov (.tmp 71)⟩,
  ⟨(some 73), (some (72, true)), .mov (.tmp 13)⟩,
  ⟨(some 74), (some (72, true)), .un .not (.tmp 73)⟩,
  ⟨(some 75), none, .pick (.tmp 72) (.tmp 74) (.cst (LV.bool false))⟩,
  ⟨(some 6), none, .mov (.tmp 75)⟩] []) .ret))))))))), [.tmp 6]⟩
/-- interpreter/interpreterlaw03.Ip4Known -/
def c_interpreterlaw03_Ip4Known : MFn := ⟨0, 108, (.seq (.reg [
  ⟨(some 0), none, .mov (.cst (LV.bool false))⟩] []) (.seq (.reg [
  ⟨(some 20), none, .call id_interpreterlaw03_example []⟩,
  ⟨(some 21), none, .call id_ip4_Bytes [(.tmp 20)]⟩,
  ⟨(some 19), none, .mov (.tmp 21)⟩,
  ⟨(some 22), none, .extract (.tmp 19) 0⟩,
  ⟨(some 23), none, .extract (.tmp 19) 1⟩,
  ⟨(some 1), none, .mov (.tmp 22)⟩,
  ⟨(some 2), none, .mov (.tmp 23)⟩] []) (.seq (.seq (.reg [
  ⟨(some 24), none, .mov (.tmp 1)⟩,
  ⟨(some 25), none, .len true (.tmp 24)⟩,
  ⟨(some 26), none, .bin .neq (.tmp 25) (.cst (LV.int .i64 22))⟩] []) (.cond (.tmp 26) (.seq (.reg [
  ⟨(some 0), none, .mov (.cst (LV.bool false))⟩] []) .ret) .skip)) (.seq (.reg [
  ⟨(some 28), none, .mov (.tmp 1)⟩,
  ⟨(some 29), none, .slc 0 (.tmp 28) none (some (.cst (LV.int .i64 19)))⟩,
  ⟨(some 30), none, .call id_ip4_Parse [(.tmp 29)]⟩,
  ⟨(some 27), none, .mov (.tmp 30)⟩,
  ⟨(some 31), none, .extract (.tmp 27) 0⟩,
  ⟨(some 32), none, .extract (.tmp 27) 1⟩,
  ⟨(some 3), none, .alloc (LV.agg [(LV.int .i64 0), (LV.int .i64 0), (LV.int .i64 0), (LV.int .i64 0), (LV.int .i64 0), (LV.bool false), (LV.bool false), (LV.bytes [0, 0, 0, 0]), (LV.bytes [0, 0, 0, 0]), (LV.str []), (LV.str [])])⟩,
  ⟨none, none, .store 17 true (.tmp 3) (.tmp 31)⟩,
  ⟨(some 4), none, .mov (.tmp 32)⟩] []) (.seq (.reg [
  ⟨(some 34), none, .mov (.tmp 1)⟩,
  ⟨(some 35), none, .slc 0 (.tmp 34) none (some (.cst (LV.int .i64 21)))⟩,
  ⟨(some 36), none, .call id_ip4_Parse [(.tmp 35)]⟩,
  ⟨(some 33), none, .mov (.tmp 36)⟩,
  ⟨(some 37), none, .extract (.tmp 33) 0⟩,
  ⟨(some 38), none, .extract (.tmp 33) 1⟩,
  ⟨(some 5), none, .alloc (LV.agg [(LV.int .i64 0), (LV.int .i64 0), (LV.int .i64 0), (LV.int .i64 0), (LV.int .i64 0), (LV.bool false), (LV.bool false), (LV.bytes [0, 0, 0, 0]), (LV.bytes [0, 0, 0, 0]), (LV.str []), (LV.str [])])⟩,
  ⟨none, none, .store 17 true (.tmp 5) (.tmp 37)⟩,
  ⟨(some 6), none, .mov (.tmp 38)⟩] []) (.seq (.reg [
  ⟨(some 40), none, .build (LV.agg [(LV.int .i64 0), (LV.int .i64 0), (LV.int .i64 0), (LV.int .i64 0), (LV.int .i64 0), (LV.bool false), (LV.bool false), (LV.bytes [0, 0, 0, 0]), (LV.bytes [0, 0, 0, 0]), (LV.str []), (LV.str [])]) [(4, (.cst (LV.int .i64 4)))]⟩,
  ⟨(some 41), none, .call id_ip4_Bytes [(.tmp 40)]⟩,
  ⟨(some 39), none, .mov (.tmp 41)⟩,
  ⟨(some 42), none, .extract (.tmp 39) 0⟩,
  ⟨(some 43), none, .extract (.tmp 39) 1⟩,
  ⟨(some 7), none, .mov (.tmp 42)⟩,
  ⟨(some 8), none, .mov (.tmp 43)⟩] []) (.seq (.reg [
  ⟨(some 45), none, .call id_strings_Repeat [(.cst (LV.str [120])), (.cst (LV.int .i64 65516))]⟩,
  ⟨(some 46), none, .build (LV.agg [(LV.int .i64 0), (LV.int .i64 0), (LV.int .i64 0), (LV.int .i64 0), (LV.int .i64 0), (LV.bool false), (LV.bool false), (LV.bytes [0, 0, 0, 0]), (LV.bytes [0, 0, 0, 0]), (LV.str []), (LV.str [])]) [(10, (.tmp 45))]⟩,
  ⟨(some 47), none, .call id_ip4_Bytes [(.tmp 46)]⟩,
  ⟨(some 44), none, .mov (.tmp 47)⟩,
  ⟨(some 48), none, .extract (.tmp 44) 0⟩,
  ⟨(some 49), none, .extract (.tmp 44) 1⟩,
  ⟨(some 9), none, .mov (.tmp 48)⟩,
  ⟨(some 10), none, .mov (.tmp 49)⟩] []) (.seq (.reg [
  ⟨(some 51), none, .call id_strings_Repeat [(.cst (LV.str [120])), (.cst (LV.int .i64 65515))]⟩,
  ⟨(some 52), none, .build (LV.agg [(LV.int .i64 0), (LV.int .i64 0), (LV.int .i64 0), (LV.int .i64 0), (LV.int .i64 0), (LV.bool false), (LV.bool false), (LV.bytes [0, 0, 0, 0]), (LV.bytes [0, 0, 0, 0]), (LV.str []), (LV.str [])]) [(10, (.tmp 51))]⟩,
  ⟨(some 53), none, .call id_ip4_Bytes [(.tmp 52)]⟩,
  ⟨(some 50), none, .mov (.tmp 53)⟩,
  ⟨(some 54), none, .extract (.tmp 50) 0⟩,
  ⟨(some 55), none, .extract (.tmp 50) 1⟩,
  ⟨(some 11), none, .mov (.tmp 54)⟩,
  ⟨(some 12), none, .mov (.tmp 55)⟩] []) (.seq (.reg [
  ⟨(some 57), none, .call id_ip4_Routed [(.cst (LV.str [1, 131, 3, 4]))]⟩,
  ⟨(some 56), none, .mov (.tmp 57)⟩,
  ⟨(some 58), none, .extract (.tmp 56) 0⟩,
  ⟨(some 59), none, .extract (.tmp 56) 1⟩,
  ⟨(some 13), none, .mov (.tmp 58)⟩,
  ⟨(some 14), none, .mov (.tmp 59)⟩] []) (.seq (.reg [
  ⟨(some 61), none, .call id_ip4_Routed [(.cst (LV.str [131, 7, 4, 0, 0, 0, 0]))]⟩,
  ⟨(some 60), none, .mov (.tmp 61)⟩,
  ⟨(some 62), none, .extract (.tmp 60) 0⟩,
  ⟨(some 63), none, .extract (.tmp 60) 1⟩,
  ⟨(some 15), none, .mov (.tmp 62)⟩,
  ⟨(some 16), none, .mov (.tmp 63)⟩] []) (.seq (.reg [
  ⟨(some 65), none, .call id_ip4_Routed [(.cst (LV.str [7, 1]))]⟩,
  ⟨(some 64), none, .mov (.tmp 65)⟩,
  ⟨(some 66), none, .extract (.tmp 64) 0⟩,
  ⟨(some 67), none, .extract (.tmp 64) 1⟩,
  ⟨(some 17), none, .mov (.tmp 66)⟩,
  ⟨(some 18), none, .mov (.tmp 67)⟩] []) (.seq (.reg [
  ⟨(some 68), none, .call id_interpreterlaw03_awake []⟩,
  ⟨(some 69), none, .mov (.tmp 68)⟩,
  ⟨(some 70), (some (69, true)), .mov (.tmp 4)⟩,
  ⟨(some 71), (some (69, true)), .call id_interpreterlaw03_same [(.tmp 70), (.cst (LV.int .i64 7))]⟩,
  ⟨(some 72), none, .pick (.tmp 69) (.tmp 71) (.cst (LV.bool false))⟩,
  ⟨(some 73), none, .mov (.tmp 72)⟩,
  ⟨(some 74), (some (73, true)), .mov (.tmp 6)⟩,
  ⟨(some 75), (some (73, true)), .call id_interpreterlaw03_same [(.tmp 74), (.cst (LV.int .i64 7))]⟩,
  ⟨(some 76), none, .pick (.tmp 73) (.tmp 75) (.cst (LV.bool false))⟩,
  ⟨(some 77), none, .mov (.tmp 76)⟩,
  ⟨(some 78), (some (77, true)), .mov (.tmp 8)⟩,
  ⟨(some 79), (some (77, true)), .call id_interpreterlaw03_same [(.tmp 78), (.cst (LV.int .i64 13))]⟩,
  ⟨(some 80), none, .pick (.tmp 77) (.tmp 79) (.cst (LV.bool false))⟩,
  ⟨(some 81), none, .mov (.tmp 80)⟩,
  ⟨(some 82), (some (81, true)), .mov (.tmp 10)⟩,
  ⟨(some 83), (some (81, true)), .call id_interpreterlaw03_same [(.tmp 82), (.cst (LV.int .i64 3))]⟩,
  ⟨(some 84), none, .pick (.tmp 81) (.tmp 83) (.cst (LV.bool false))⟩,
  ⟨(some 85), none, .mov (.tmp 84)⟩,
  ⟨(some 86), (some (85, true)), .mov (.tmp 12)⟩,
  ⟨(some 87), (some (85, true)), .eqNil 1 false (.tmp 86)⟩,
  ⟨(some 88), none, .pick (.tmp 85) (.tmp 87) (.cst (LV.bool false))⟩,
  ⟨(some 89), none, .mov (.tmp 88)⟩,
  ⟨(some 90), (some (89, true)), .mov (.tmp 13)⟩,
  ⟨(some 91), (some (89, true)), .un .not (.tmp 90)⟩,
  ⟨(some 92), none, .pick (.tmp 89) (.tmp 91) (.cst (LV.bool false))⟩,
  ⟨(some 93), none, .mov (.tmp 92)⟩,
  ⟨(some 94), (some (93, true)), .mov (.tmp 14)⟩,
  ⟨(some 95), (some (93, true)), .eqNil 1 false (.tmp 94)⟩,
  ⟨(some 96), none, .pick (.tmp 93) (.tmp 95) (.cst (LV.bool false))⟩,
  ⟨(some 97), none, .mov (.tmp 96)⟩,
  ⟨(some 98), (some (97, true)), .mov (.tmp 15)⟩,
  ⟨(some 99), none, .pick (.tmp 97) (.tmp 98) (.cst (LV.bool false))⟩,
  ⟨(some 100), none, .mov (.tmp 99)⟩,
  ⟨(some 101), (some (100, true)), .mov (.tmp 16)⟩,
  ⟨(some 102), (some (100, true)), .eqNil 1 false (.tmp 101)⟩,
  ⟨(some 103), none, .pick (.tmp 100) (.tmp 102) (.cst (LV.bool false))⟩,
  ⟨(some 104), none, .mov (.tmp 103)⟩,
  ⟨(some 105), (some (104, true)), .mov (.tmp 18)⟩,
  ⟨(some 106), (some (104, true)), .call id_interpreterlaw03_same [(.tmp 105), (.cst (LV.int .i64 8))]⟩,
  ⟨(some 107), none, .pick (.tmp 104) (.tmp 106) (.cst (LV.bool false))⟩,
  ⟨(some 0), none, .mov (.tmp 107)⟩] []) .ret)))))))))))), [.tmp 0]⟩
/-- interpreter/interpreterlaw03.awake -/
def c_interpreterlaw03_awake : MFn := ⟨0, 30, (.seq (.reg [
  ⟨(some 0), none, .mov (.cst (LV.bool false))⟩] []) (.seq (.reg [
  ⟨(some 6), none, .call id_interpreterlaw03_example []⟩,
  ⟨(some 7), none, .call id_ip4_Bytes [(.tmp 6)]⟩,
  ⟨(some 5), none, .mov (.tmp 7)⟩,
  ⟨(some 8), none, .extract (.tmp 5) 0⟩,
  ⟨(some 9), none, .extract (.tmp 5) 1⟩,
  ⟨(some 1), none, .mov (.tmp 8)⟩,
  ⟨(some 2), none, .mov (.tmp 9)⟩] []) (.seq (.reg [
  ⟨(some 11), none, .mov (.tmp 1)⟩,
  ⟨(some 12), none, .call id_ip4_Parse [(.tmp 11)]⟩,
  ⟨(some 10), none, .mov (.tmp 12)⟩,
  ⟨(some 13), none, .extract (.tmp 10) 0⟩,
  ⟨(some 14), none, .extract (.tmp 10) 1⟩,
  ⟨(some 3), none, .alloc (LV.agg [(LV.int .i64 0), (LV.int .i64 0), (LV.int .i64 0), (LV.int .i64 0), (LV.int .i64 0), (LV.bool false), (LV.bool false), (LV.bytes [0, 0, 0, 0]), (LV.bytes [0, 0, 0, 0]), (LV.str []), (LV.str [])])⟩,
  ⟨none, none, .store 17 true (.tmp 3) (.tmp 13)⟩,
  ⟨(some 4), none, .mov (.tmp 14)⟩] []) (.seq (.reg [
  ⟨(some 15), none, .mov (.tmp 2)⟩,
  ⟨(some 16), none, .eqNil 1 false (.tmp 15)⟩,
  ⟨(some 17), none, .mov (.tmp 16)⟩,
  ⟨(some 18), (some (17, true)), .mov (.tmp 4)⟩,
  ⟨(some 19), (some (17, true)), .eqNil 1 false (.tmp 18)⟩,
  ⟨(some 20), none, .pick (.tmp 17) (.tmp 19) (.cst (LV.bool false))⟩,
  ⟨(some 21), none, .mov (.tmp 20)⟩,
  ⟨(some 22), (some (21, true)), .load 17 true (.tmp 3)⟩,
  ⟨(some 23), (some (21, true)), .call id_interpreterlaw03_example []⟩,
  ⟨(some 24), (some (21, true)), .eqS (Sh.agg [(Sh.int .i64), (Sh.int .i64), (Sh.int .i64), (Sh.int .i64), (Sh.int .i64), Sh.bool, Sh.bool, (Sh.bytes 4), (Sh.bytes 4), Sh.str, Sh.str]) false (.tmp 22) (.tmp 23)⟩,
  ⟨(some 25), none, .pick (.tmp 21) (.tmp 24) (.cst (LV.bool false))⟩,
  ⟨(some 26), none, .mov (.tmp 25)⟩,
  ⟨(some 27), (some (26, true)), .mov (.tmp 1)⟩,
  ⟨(some 28), (some (26, true)), .bin .eql (.tmp 27) (.cst (LV.str [69, 0, 0, 22, 0, 1, 0, 0, 64, 17, 102, 212, 10, 0, 0, 1, 10, 0, 0, 2, 104, 105]))⟩,
  ⟨(some 29), none, .pick (.tmp 26) (.tmp 28) (.cst (LV.bool false))⟩,
  ⟨(some 0), none, .mov (.tmp 29)⟩] []) .ret)))), [.tmp 0]⟩
/-- interpreter/ip4.Bytes -/
def c_ip4_Bytes : MFn := ⟨1, 82, (.seq (.reg [
  ⟨(some 1), none, .box (.tmp 0)⟩,
  ⟨(some 2), none, .mov (.cst (LV.str []))⟩,
  ⟨(some 3), none, .mov (.cst LV.nili)⟩] []) (.seq (.seq (.reg [
  ⟨(some 9), none, .load 17 true (.tmp 1)⟩,
  ⟨(some 10), none, .call id_ip4_why [(.tmp 9)]⟩,
  ⟨(some 4), none, .mov (.tmp 10)⟩] []) (.seq (.reg [
  ⟨(some 11), none, .mov (.tmp 4)⟩,
  ⟨(some 12), none, .bin .neq (.tmp 11) (.cst (LV.int .i64 0))⟩] []) (.cond (.tmp 12) (.seq (.reg [
  ⟨(some 13), none, .mov (.tmp 4)⟩,
  ⟨(some 14), none, .call id_ip4_fault [(.tmp 13)]⟩,
  ⟨(some 2), none, .mov (.cst (LV.str []))⟩,
  ⟨(some 3), none, .mov (.tmp 14)⟩] []) .ret) .skip))) (.seq (.reg [
  ⟨(some 15), none, .fieldAddr 4 4 (.tmp 1)⟩,
  ⟨(some 16), none, .load 1 false (.tmp 15)⟩,
  ⟨(some 17), none, .bin .quo (.tmp 16) (.cst (LV.int .i64 8))⟩,
  ⟨(some 5), none, .mov (.tmp 17)⟩] []) (.seq (.seq (.reg [
  ⟨(some 18), none, .fieldAddr 5 5 (.tmp 1)⟩,
  ⟨(some 19), none, .load 1 false (.tmp 18)⟩] []) (.cond (.tmp 19) (.reg [
  ⟨(some 20), none, .mov (.tmp 5)⟩,
  ⟨(some 21), none, .bin .or (.tmp 20) (.cst (LV.int .i64 16384))⟩,
  ⟨(some 5), none, .mov (.tmp 21)⟩] []) .skip)) (.seq (.seq (.reg [
  ⟨(some 22), none, .fieldAddr 6 6 (.tmp 1)⟩,
  ⟨(some 23), none, .load 1 false (.tmp 22)⟩] []) (.cond (.tmp 23) (.reg [
  ⟨(some 24), none, .mov (.tmp 5)⟩,
  ⟨(some 25), none, .bin .or (.tmp 24) (.cst (LV.int .i64 8192))⟩,
  ⟨(some 5), none, .mov (.tmp 25)⟩] []) .skip)) (.seq (.reg [
  ⟨(some 26), none, .fieldAddr 9 15 (.tmp 1)⟩,
  ⟨(some 27), none, .load 1 false (.tmp 26)⟩,
  ⟨(some 28), none, .len true (.tmp 27)⟩,
  ⟨(some 29), none, .bin .add (.cst (LV.int .i64 20)) (.tmp 28)⟩,
  ⟨(some 6), none, .mov (.tmp 29)⟩] []) (.seq (.reg [
  ⟨(some 30), none, .mov (.tmp 6)⟩,
  ⟨(some 31), none, .bin .quo (.tmp 30) (.cst (LV.int .i64 4))⟩,
  ⟨(some 32), none, .bin .add (.cst (LV.int .i64 64)) (.tmp 31)⟩,
  ⟨(some 33), none, .call id_ip4_big [(.tmp 32), (.cst (LV.int .i64 1))]⟩,
  ⟨(some 34), none, .fieldAddr 0 0 (.tmp 1)⟩,
  ⟨(some 35), none, .load 1 false (.tmp 34)⟩,
  ⟨(some 36), none, .call id_ip4_big [(.tmp 35), (.cst (LV.int .i64 1))]⟩,
  ⟨(some 37), none, .bin .add (.tmp 33) (.tmp 36)⟩,
  ⟨(some 38), none, .mov (.tmp 6)⟩,
  ⟨(some 39), none, .fieldAddr 10 16 (.tmp 1)⟩,
  ⟨(some 40), none, .load 1 false (.tmp 39)⟩,
  ⟨(some 41), none, .len true (.tmp 40)⟩,
  ⟨(some 42), none, .bin .add (.tmp 38) (.tmp 41)⟩,
  ⟨(some 43), none, .call id_ip4_big [(.tmp 42), (.cst (LV.int .i64 2))]⟩,
  ⟨(some 44), none, .bin .add (.tmp 37) (.tmp 43)⟩,
  ⟨(some 45), none, .fieldAddr 1 1 (.tmp 1)⟩,
  ⟨(some 46), none, .load 1 false (.tmp 45)⟩,
  ⟨(some 47), none, .call id_ip4_big [(.tmp 46), (.cst (LV.int .i64 2))]⟩,
  ⟨(some 48), none, .bin .add (.tmp 44) (.tmp 47)⟩,
  ⟨(some 49), none, .mov (.tmp 5)⟩,
  ⟨(some 50), none, .call id_ip4_big [(.tmp 49), (.cst (LV.int .i64 2))]⟩,
  ⟨(some 51), none, .bin .add (.tmp 48) (.tmp 50)⟩,
  ⟨(some 52), none, .fieldAddr 2 2 (.tmp 1)⟩,
  ⟨(some 53), none, .load 1 false (.tmp 52)⟩,
  ⟨(some 54), none, .call id_ip4_big [(.tmp 53), (.cst (LV.int .i64 1))]⟩,
  ⟨(some 55), none, .bin .add (.tmp 51) (.tmp 54)⟩,
  ⟨(some 56), none, .fieldAddr 3 3 (.tmp 1)⟩,
  ⟨(some 57), none, .load 1 false (.tmp 56)⟩,
  ⟨(some 58), none, .call id_ip4_big [(.tmp 57), (.cst (LV.int .i64 1))]⟩,
  ⟨(some 59), none, .bin .add (.tmp 55) (.tmp 58)⟩,
  ⟨(some 7), none, .mov (.tmp 59)⟩] []) (.seq (.reg [
  ⟨(some 60), none, .fieldAddr 7 7 (.tmp 1)⟩,
  ⟨(some 61), none, .slcArr 4 (.tmp 60) none none⟩,
  ⟨(some 62), none, .b2s (.tmp 61)⟩,
  ⟨(some 63), none, .fieldAddr 8 11 (.tmp 1)⟩,
  ⟨(some 64), none, .slcArr 4 (.tmp 63) none none⟩,
  ⟨(some 65), none, .b2s (.tmp 64)⟩,
  ⟨(some 66), none, .bin .add (.tmp 62) (.tmp 65)⟩,
  ⟨(some 67), none, .fieldAddr 9 15 (.tmp 1)⟩,
  ⟨(some 68), none, .load 1 false (.tmp 67)⟩,
  ⟨(some 69), none, .bin .add (.tmp 66) (.tmp 68)⟩,
  ⟨(some 8), none, .mov (.tmp 69)⟩] []) (.seq (.reg [
  ⟨(some 70), none, .mov (.tmp 7)⟩,
  ⟨(some 71), none, .mov (.tmp 7)⟩,
  ⟨(some 72), none, .mov (.tmp 8)⟩,
  ⟨(some 73), none, .bsl (LV.str []) 2 [(0, (.tmp 71)), (1, (.tmp 72))]⟩,
  ⟨(some 74), none, .call id_sum_Of [(.tmp 73)]⟩,
  ⟨(some 75), none, .call id_ip4_big [(.tmp 74), (.cst (LV.int .i64 2))]⟩,
  ⟨(some 76), none, .bin .add (.tmp 70) (.tmp 75)⟩,
  ⟨(some 77), none, .mov (.tmp 8)⟩,
  ⟨(some 78), none, .bin .add (.tmp 76) (.tmp 77)⟩,
  ⟨(some 79), none, .fieldAddr 10 16 (.tmp 1)⟩,
  ⟨(some 80), none, .load 1 false (.tmp 79)⟩,
  ⟨(some 81), none, .bin .add (.tmp 78) (.tmp 80)⟩,
  ⟨(some 2), none, .mov (.tmp 81)⟩,
  ⟨(some 3), none, .mov (.cst LV.nili)⟩] []) .ret))))))))), [.tmp 2, .tmp 3]⟩
/-- interpreter/interpreterref03.Bytes -/
def c_interpreterref03_Bytes : MFn := ⟨1, 115, (.seq (.reg [
  ⟨(some 1), none, .box (.tmp 0)⟩,
  ⟨(some 2), none, .mov (.cst (LV.str []))⟩,
  ⟨(some 3), none, .mov (.cst (LV.int .i64 0))⟩] []) (.seq (.reg [
  ⟨(some 12), none, .load 17 true (.tmp 1)⟩,
  ⟨(some 13), none, .call id_interpreterref03_Why [(.tmp 12)]⟩,
  ⟨(some 4), none, .mov (.tmp 13)⟩] []) (.seq (.seq (.reg [
  ⟨(some 14), none, .mov (.tmp 4)⟩,
  ⟨(some 15), none, .bin .neq (.tmp 14) (.cst (LV.int .i64 0))⟩] []) (.cond (.tmp 15) (.seq (.reg [
  ⟨(some 16), none, .mov (.tmp 4)⟩,
  ⟨(some 2), none, .mov (.cst (LV.str []))⟩,
  ⟨(some 3), none, .mov (.tmp 16)⟩] []) .ret) .skip)) (.seq (.reg [
  ⟨(some 17), none, .fieldAddr 9 15 (.tmp 1)⟩,
  ⟨(some 18), none, .load 1 false (.tmp 17)⟩,
  ⟨(some 19), none, .len true (.tmp 18)⟩,
  ⟨(some 20), none, .bin .add (.cst (LV.int .i64 20)) (.tmp 19)⟩,
  ⟨(some 5), none, .mov (.tmp 20)⟩] []) (.seq (.reg [
  ⟨(some 21), none, .fieldAddr 4 4 (.tmp 1)⟩,
  ⟨(some 22), none, .load 1 false (.tmp 21)⟩,
  ⟨(some 23), none, .bin .quo (.tmp 22) (.cst (LV.int .i64 8))⟩,
  ⟨(some 6), none, .mov (.tmp 23)⟩] []) (.seq (.seq (.reg [
  ⟨(some 24), none, .fieldAddr 6 6 (.tmp 1)⟩,
  ⟨(some 25), none, .load 1 false (.tmp 24)⟩] []) (.cond (.tmp 25) (.reg [
  ⟨(some 26), none, .mov (.tmp 6)⟩,
  ⟨(some 27), none, .bin .add (.tmp 26) (.cst (LV.int .i64 8192))⟩,
  ⟨(some 6), none, .mov (.tmp 27)⟩] []) .skip)) (.seq (.seq (.reg [
  ⟨(some 28), none, .fieldAddr 5 5 (.tmp 1)⟩,
  ⟨(some 29), none, .load 1 false (.tmp 28)⟩] []) (.cond (.tmp 29) (.reg [
  ⟨(some 30), none, .mov (.tmp 6)⟩,
  ⟨(some 31), none, .bin .add (.tmp 30) (.cst (LV.int .i64 16384))⟩,
  ⟨(some 6), none, .mov (.tmp 31)⟩] []) .skip)) (.seq (.reg [
  ⟨(some 32), none, .mov (.tmp 5)⟩,
  ⟨(some 33), none, .fieldAddr 10 16 (.tmp 1)⟩,
  ⟨(some 34), none, .load 1 false (.tmp 33)⟩,
  ⟨(some 35), none, .len true (.tmp 34)⟩,
  ⟨(some 36), none, .bin .add (.tmp 32) (.tmp 35)⟩,
  ⟨(some 7), none, .mov (.tmp 36)⟩] []) (.seq (.reg [
  ⟨(some 37), none, .mov (.tmp 5)⟩,
  ⟨(some 38), none, .bin .quo (.tmp 37) (.cst (LV.int .i64 4))⟩,
  ⟨(some 39), none, .bin .add (.cst (LV.int .i64 64)) (.tmp 38)⟩,
  ⟨(some 40), none, .conv .u8 (.tmp 39)⟩,
  ⟨(some 41), none, .fieldAddr 0 0 (.tmp 1)⟩,
  ⟨(some 42), none, .load 1 false (.tmp 41)⟩,
  ⟨(some 43), none, .conv .u8 (.tmp 42)⟩,
  ⟨(some 44), none, .mov (.tmp 7)⟩,
  ⟨(some 45), none, .bin .quo (.tmp 44) (.cst (LV.int .i64 256))⟩,
  ⟨(some 46), none, .conv .u8 (.tmp 45)⟩,
  ⟨(some 47), none, .mov (.tmp 7)⟩,
  ⟨(some 48), none, .bin .rem (.tmp 47) (.cst (LV.int .i64 256))⟩,
  ⟨(some 49), none, .conv .u8 (.tmp 48)⟩,
  ⟨(some 50), none, .fieldAddr 1 1 (.tmp 1)⟩,
  ⟨(some 51), none, .load 1 false (.tmp 50)⟩,
  ⟨(some 52), none, .bin .quo (.tmp 51) (.cst (LV.int .i64 256))⟩,
  ⟨(some 53), none, .conv .u8 (.tmp 52)⟩,
  ⟨(some 54), none, .fieldAddr 1 1 (.tmp 1)⟩,
  ⟨(some 55), none, .load 1 false (.tmp 54)⟩,
  ⟨(some 56), none, .bin .rem (.tmp 55) (.cst (LV.int .i64 256))⟩,
  ⟨(some 57), none, .conv .u8 (.tmp 56)⟩,
  ⟨(some 58), none, .mov (.tmp 6)⟩,
  ⟨(some 59), none, .bin .quo (.tmp 58) (.cst (LV.int .i64 256))⟩,
  ⟨(some 60), none, .conv .u8 (.tmp 59)⟩,
  ⟨(some 61), none, .mov (.tmp 6)⟩,
  ⟨(some 62), none, .bin .rem (.tmp 61) (.cst (LV.int .i64 256))⟩,
  ⟨(some 63), none, .conv .u8 (.tmp 62)⟩,
  ⟨(some 64), none, .fieldAddr 2 2 (.tmp 1)⟩,
  ⟨(some 65), none, .load 1 false (.tmp 64)⟩,
  ⟨(some 66), none, .conv .u8 (.tmp 65)⟩,
  ⟨(some 67), none, .fieldAddr 3 3 (.tmp 1)⟩,
  ⟨(some 68), none, .load 1 false (.tmp 67)⟩,
  ⟨(some 69), none, .conv .u8 (.tmp 68)⟩,
  ⟨(some 70), none, .bslM 12 [(0, (.tmp 40)), (1, (.tmp 43)), (2, (.tmp 46)), (3, (.tmp 49)), (4, (.tmp 53)), (5, (.tmp 57)), (6, (.tmp 60)), (7, (.tmp 63)), (8, (.tmp 66)), (9, (.tmp 69)), (10, (.cst (LV.int .u8 0))), (11, (.cst (LV.int .u8 0)))]⟩,
  ⟨(some 8), none, .mov (.tmp 70)⟩] []) (.seq (.seq (.reg [
  ⟨(some 9), none, .mov (.cst (LV.int .i64 0))⟩] []) (.block 0 (.loop [8, 9] [71, 72, 75, 76, 77, 78, 79, 80, 81, 73, 74] (.seq (.seq (.reg [
  ⟨(some 71), none, .mov (.tmp 9)⟩,
  ⟨(some 72), none, .bin .lss (.tmp 71) (.cst (LV.int .i64 4))⟩] []) (.cond (.tmp 72) .skip (.exit 0))) (.seq (.block 1 (.reg [
  ⟨(some 75), none, .mov (.tmp 8)⟩,
  ⟨(some 76), none, .mov (.tmp 9)⟩,
  ⟨(some 77), none, .fieldAddr 7 7 (.tmp 1)⟩,
  ⟨(some 78), none, .idxAddr (some 4) 1 (.tmp 77) (.tmp 76)⟩,
  ⟨(some 79), none, .load 1 false (.tmp 78)⟩,
  ⟨(some 80), none, .bsl (LV.int .u8 0) 1 [(0, (.tmp 79))]⟩,
  ⟨(some 81), none, .append 1 1 (.tmp 75) (.tmp 80)⟩,
  ⟨(some 8), none, .mov (.tmp 81)⟩] [])) (.reg [
  ⟨(some 73), none, .mov (.tmp 9)⟩,
  ⟨(some 74), none, .bin .add (.tmp 73) (.cst (LV.int .i64 1))⟩,
  ⟨(some 9), none, .mov (.tmp 74)⟩] [])))))) (.seq (.seq (.reg [
  ⟨(some 10), none, .mov (.cst (LV.int .i64 0))⟩] []) (.block 2 (.loop [8, 10] [82, 83, 86, 87, 88, 89, 90, 91, 92, 84, 85] (.seq (.seq (.reg [
  ⟨(some 82), none, .mov (.tmp 10)⟩,
  ⟨(some 83), none, .bin .lss (.tmp 82) (.cst (LV.int .i64 4))⟩] []) (.cond (.tmp 83) .skip (.exit 2))) (.seq (.block 3 (.reg [
  ⟨(some 86), none, .mov (.tmp 8)⟩,
  ⟨(some 87), none, .mov (.tmp 10)⟩,
  ⟨(some 88), none, .fieldAddr 8 11 (.tmp 1)⟩,
  ⟨(some 89), none, .idxAddr (some 4) 1 (.tmp 88) (.tmp 87)⟩,
  ⟨(some 90), none, .load 1 false (.tmp 89)⟩,
  ⟨(some 91), none, .bsl (LV.int .u8 0) 1 [(0, (.tmp 90))]⟩,
  ⟨(some 92), none, .append 1 1 (.tmp 86) (.tmp 91)⟩,
  ⟨(some 8), none, .mov (.tmp 92)⟩] [])) (.reg [
  ⟨(some 84), none, .mov (.tmp 10)⟩,
  ⟨(some 85), none, .bin .add (.tmp 84) (.cst (LV.int .i64 1))⟩,
  ⟨(some 10), none, .mov (.tmp 85)⟩] [])))))) (.seq (.reg [
  ⟨(some 93), none, .mov (.tmp 8)⟩,
  ⟨(some 94), none, .fieldAddr 9 15 (.tmp 1)⟩,
  ⟨(some 95), none, .load 1 false (.tmp 94)⟩,
  ⟨(some 96), none, .append 1 1 (.tmp 93) (.tmp 95)⟩,
  ⟨(some 8), none, .mov (.tmp 96)⟩] []) (.seq (.reg [
  ⟨(some 97), none, .mov (.tmp 8)⟩,
  ⟨(some 98), none, .b2s (.tmp 97)⟩,
  ⟨(some 99), none, .call id_interpreterref02_Of [(.tmp 98)]⟩,
  ⟨(some 11), none, .mov (.tmp 99)⟩] []) (.seq (.reg [
  ⟨(some 100), none, .mov (.tmp 8)⟩,
  ⟨(some 101), none, .mov (.tmp 11)⟩,
  ⟨(some 102), none, .bin .quo (.tmp 101) (.cst (LV.int .i64 256))⟩,
  ⟨(some 103), none, .conv .u8 (.tmp 102)⟩,
  ⟨(some 104), none, .idxAddr none 1 (.tmp 100) (.cst (LV.int .i64 10))⟩,
  ⟨none, none, .store 1 false (.tmp 104) (.tmp 103)⟩] []) (.seq (.reg [
  ⟨(some 105), none, .mov (.tmp 8)⟩,
  ⟨(some 106), none, .mov (.tmp 11)⟩,
  ⟨(some 107), none, .bin .rem (.tmp 106) (.cst (LV.int .i64 256))⟩,
  ⟨(some 108), none, .conv .u8 (.tmp 107)⟩,
  ⟨(some 109), none, .idxAddr none 1 (.tmp 105) (.cst (LV.int .i64 11))⟩,
  ⟨none, none, .store 1 false (.tmp 109) (.tmp 108)⟩] []) (.seq (.reg [
  ⟨(some 110), none, .mov (.tmp 8)⟩,
  ⟨(some 111), none, .b2s (.tmp 110)⟩,
  ⟨(some 112), none, .fieldAddr 10 16 (.tmp 1)⟩,
  ⟨(some 113), none, .load 1 false (.tmp 112)⟩,
  ⟨(some 114), none, .bin .add (.tmp 111) (.tmp 113)⟩,
  ⟨(some 2), none, .mov (.tmp 114)⟩,
  ⟨(some 3), none, .mov (.cst (LV.int .i64 0))⟩] []) .ret)))))))))))))))), [.tmp 2, .tmp 3]⟩
/-- interpreter/interpreterlaw03.same -/
def c_interpreterlaw03_same : MFn := ⟨2, 36, (.seq (.reg [
  ⟨(some 4), none, .mov (.cst (LV.bool false))⟩] []) (.seq (.seq (.reg [
  ⟨(some 7), none, .mov (.tmp 1)⟩,
  ⟨(some 8), none, .bin .eql (.tmp 7) (.cst (LV.int .i64 0))⟩] []) (.cond (.tmp 8) (.seq (.reg [
  ⟨(some 9), none, .mov (.tmp 0)⟩,
  ⟨(some 10), none, .eqNil 1 false (.tmp 9)⟩,
  ⟨(some 4), none, .mov (.tmp 10)⟩] []) .ret) .skip)) (.seq (.reg [
  ⟨(some 12), none, .mov (.tmp 0)⟩,
  ⟨(some 13), none, .assert ty_ptr_num_Fault true LV.nilp (.tmp 12)⟩,
  ⟨(some 11), none, .mov (.tmp 13)⟩,
  ⟨(some 14), none, .extract (.tmp 11) 0⟩,
  ⟨(some 15), none, .extract (.tmp 11) 1⟩,
  ⟨(some 5), none, .mov (.tmp 14)⟩,
  ⟨(some 6), none, .mov (.tmp 15)⟩] []) (.seq (.reg [
  ⟨(some 16), none, .mov (.tmp 6)⟩,
  ⟨(some 17), none, .mov (.tmp 16)⟩,
  ⟨(some 18), (some (17, true)), .mov (.tmp 5)⟩,
  ⟨(some 19), (some (17, true)), .eqNil 0 true (.tmp 18)⟩,
  ⟨(some 20), none, .pick (.tmp 17) (.tmp 19) (.cst (LV.bool false))⟩,
  ⟨(some 21), none, .mov (.tmp 20)⟩,
  ⟨(some 22), (some (21, true)), .mov (.tmp 5)⟩,
  ⟨(some 23), (some (21, true)), .nilCheck (.tmp 22)⟩,
  ⟨(some 24), (some (21, true)), .fieldAddr 0 0 (.tmp 23)⟩,
  ⟨(some 25), (some (21, true)), .load 1 false (.tmp 24)⟩,
  ⟨(some 26), (some (21, true)), .mov (.tmp 1)⟩,
  ⟨(some 27), (some (21, true)), .bin .eql (.tmp 25) (.tmp 26)⟩,
  ⟨(some 28), none, .pick (.tmp 21) (.tmp 27) (.cst (LV.bool false))⟩,
  ⟨(some 29), none, .mov (.tmp 28)⟩,
  ⟨(some 30), (some (29, true)), .mov (.tmp 5)⟩,
  ⟨(some 31), (some (29, true)), .nilCheck (.tmp 30)⟩,
  ⟨(some 32), (some (29, true)), .fieldAddr 1 1 (.tmp 31)⟩,
  ⟨(some 33), (some (29, true)), .load 1 false (.tmp 32)⟩,
  ⟨(some 34), (some (29, true)), .bin .eql (.tmp 33) (.cst (LV.int .i64 0))⟩,
  ⟨(some 35), none, .pick (.tmp 29) (.tmp 34) (.cst (LV.bool false))⟩,
  ⟨(some 4), none, .mov (.tmp 35)⟩] []) .ret)))), [.tmp 4]⟩
/-- interpreter/ip4.Parse -/
def c_ip4_Parse : MFn := ⟨1, 114, (.seq (.reg [
  ⟨(some 1), none, .box (.tmp 0)⟩,
  ⟨(some 2), none, .alloc (LV.agg [(LV.int .i64 0), (LV.int .i64 0), (LV.int .i64 0), (LV.int .i64 0), (LV.int .i64 0), (LV.bool false), (LV.bool false), (LV.bytes [0, 0, 0, 0]), (LV.bytes [0, 0, 0, 0]), (LV.str []), (LV.str [])])⟩,
  ⟨(some 3), none, .mov (.cst LV.nili)⟩] []) (.seq (.reg [
  ⟨(some 4), none, .alloc (LV.agg [(LV.int .i64 0), (LV.int .i64 0), (LV.int .i64 0), (LV.int .i64 0), (LV.int .i64 0), (LV.bool false), (LV.bool false), (LV.bytes [0, 0, 0, 0]), (LV.bytes [0, 0, 0, 0]), (LV.str []), (LV.str [])])⟩] []) (.seq (.seq (.reg [
  ⟨(some 10), none, .load 1 false (.tmp 1)⟩,
  ⟨(some 11), none, .len true (.tmp 10)⟩,
  ⟨(some 12), none, .bin .lss (.tmp 11) (.cst (LV.int .i64 20))⟩] []) (.cond (.tmp 12) (.seq (.reg [
  ⟨(some 13), none, .load 17 true (.tmp 4)⟩,
  ⟨(some 14), none, .call id_ip4_fault [(.cst (LV.int .i64 7))]⟩,
  ⟨none, none, .store 17 true (.tmp 2) (.tmp 13)⟩,
  ⟨(some 3), none, .mov (.tmp 14)⟩] []) .ret) .skip)) (.seq (.reg [
  ⟨(some 15), none, .load 1 false (.tmp 1)⟩,
  ⟨(some 16), none, .idxStr (.tmp 15) (.cst (LV.int .i64 0))⟩,
  ⟨(some 17), none, .bin .and (.tmp 16) (.cst (LV.int .u8 15))⟩,
  ⟨(some 18), none, .conv .i64 (.tmp 17)⟩,
  ⟨(some 19), none, .bin .mul (.tmp 18) (.cst (LV.int .i64 4))⟩,
  ⟨(some 5), none, .mov (.tmp 19)⟩] []) (.seq (.block 0 (.seq (.reg [
  ⟨(some 21), none, .load 1 false (.tmp 1)⟩,
  ⟨(some 22), none, .idxStr (.tmp 21) (.cst (LV.int .i64 0))⟩,
  ⟨(some 23), none, .bin .shr (.tmp 22) (.cst (LV.int .u64 4))⟩,
  ⟨(some 24), none, .bin .neq (.tmp 23) (.cst (LV.int .u8 4))⟩,
  ⟨(some 25), none, .mov (.tmp 24)⟩,
  ⟨(some 26), (some (25, false)), .mov (.tmp 5)⟩,
  ⟨(some 27), (some (25, false)), .bin .lss (.tmp 26) (.cst (LV.int .i64 20))⟩,
  ⟨(some 28), none, .pick (.tmp 25) (.cst (LV.bool true)) (.tmp 27)⟩,
  ⟨(some 20), none, .mov (.tmp 28)⟩] []) (.cond (.tmp 20) (.seq (.reg [
  ⟨(some 29), none, .load 17 true (.tmp 4)⟩,
  ⟨(some 30), none, .call id_ip4_fault [(.cst (LV.int .i64 8))]⟩,
  ⟨none, none, .store 17 true (.tmp 2) (.tmp 29)⟩,
  ⟨(some 3), none, .mov (.tmp 30)⟩] []) .ret) (.seq (.reg [
  ⟨(some 32), none, .load 1 false (.tmp 1)⟩,
  ⟨(some 33), none, .len true (.tmp 32)⟩,
  ⟨(some 34), none, .mov (.tmp 5)⟩,
  ⟨(some 35), none, .bin .lss (.tmp 33) (.tmp 34)⟩,
  ⟨(some 31), none, .mov (.tmp 35)⟩] []) (.cond (.tmp 31) (.seq (.reg [
  ⟨(some 36), none, .load 17 true (.tmp 4)⟩,
  ⟨(some 37), none, .call id_ip4_fault [(.cst (LV.int .i64 7))]⟩,
  ⟨none, none, .store 17 true (.tmp 2) (.tmp 36)⟩,
  ⟨(some 3), none, .mov (.tmp 37)⟩] []) .ret) (.seq (.reg [
  ⟨(some 39), none, .load 1 false (.tmp 1)⟩,
  ⟨(some 40), none, .mov (.tmp 5)⟩,
  ⟨(some 41), none, .slc 0 (.tmp 39) none (some (.tmp 40))⟩,
  ⟨(some 42), none, .bsl (LV.str []) 1 [(0, (.tmp 41))]⟩,
  ⟨(some 43), none, .call id_sum_Right [(.tmp 42)]⟩,
  ⟨(some 44), none, .un .not (.tmp 43)⟩,
  ⟨(some 38), none, .mov (.tmp 44)⟩] []) (.cond (.tmp 38) (.seq (.reg [
  ⟨(some 45), none, .load 17 true (.tmp 4)⟩,
  ⟨(some 46), none, .call id_ip4_fault [(.cst (LV.int .i64 9))]⟩,
  ⟨none, none, .store 17 true (.tmp 2) (.tmp 45)⟩,
  ⟨(some 3), none, .mov (.tmp 46)⟩] []) .ret) .skip))))))) (.seq (.reg [
  ⟨(some 47), none, .mkFunc id_ip4_Parse_1 [(.tmp 1)]⟩,
  ⟨(some 6), none, .mov (.tmp 47)⟩] []) (.seq (.reg [
  ⟨(some 48), none, .mov (.tmp 6)⟩,
  ⟨(some 49), none, .callv (.tmp 48) [(.cst (LV.int .i64 2))]⟩,
  ⟨(some 50), none, .mov (.tmp 6)⟩,
  ⟨(some 51), none, .callv (.tmp 50) [(.cst (LV.int .i64 6))]⟩,
  ⟨(some 7), none, .mov (.tmp 49)⟩,
  ⟨(some 8), none, .mov (.tmp 51)⟩] []) (.seq (.block 1 (.seq (.reg [
  ⟨(some 53), none, .mov (.tmp 7)⟩,
  ⟨(some 54), none, .mov (.tmp 5)⟩,
  ⟨(some 55), none, .bin .lss (.tmp 53) (.tmp 54)⟩,
  ⟨(some 52), none, .mov (.tmp 55)⟩] []) (.cond (.tmp 52) (.seq (.reg [
  ⟨(some 56), none, .load 17 true (.tmp 4)⟩,
  ⟨(some 57), none, .call id_ip4_fault [(.cst (LV.int .i64 8))]⟩,
  ⟨none, none, .store 17 true (.tmp 2) (.tmp 56)⟩,
  ⟨(some 3), none, .mov (.tmp 57)⟩] []) .ret) (.seq (.reg [
  ⟨(some 59), none, .load 1 false (.tmp 1)⟩,
  ⟨(some 60), none, .len true (.tmp 59)⟩,
  ⟨(some 61), none, .mov (.tmp 7)⟩,
  ⟨(some 62), none, .bin .lss (.tmp 60) (.tmp 61)⟩,
  ⟨(some 58), none, .mov (.tmp 62)⟩] []) (.cond (.tmp 58) (.seq (.reg [
  ⟨(some 63), none, .load 17 true (.tmp 4)⟩,
  ⟨(some 64), none, .call id_ip4_fault [(.cst (LV.int .i64 7))]⟩,
  ⟨none, none, .store 17 true (.tmp 2) (.tmp 63)⟩,
  ⟨(some 3), none, .mov (.tmp 64)⟩] []) .ret) .skip))))) (.seq (.reg [
  ⟨(some 65), none, .load 1 false (.tmp 1)⟩,
  ⟨(some 66), none, .idxStr (.tmp 65) (.cst (LV.int .i64 1))⟩,
  ⟨(some 67), none, .conv .i64 (.tmp 66)⟩,
  ⟨(some 68), none, .mov (.tmp 6)⟩,
  ⟨(some 69), none, .callv (.tmp 68) [(.cst (LV.int .i64 4))]⟩,
  ⟨(some 70), none, .load 1 false (.tmp 1)⟩,
  ⟨(some 71), none, .idxStr (.tmp 70) (.cst (LV.int .i64 8))⟩,
  ⟨(some 72), none, .conv .i64 (.tmp 71)⟩,
  ⟨(some 73), none, .load 1 false (.tmp 1)⟩,
  ⟨(some 74), none, .idxStr (.tmp 73) (.cst (LV.int .i64 9))⟩,
  ⟨(some 75), none, .conv .i64 (.tmp 74)⟩,
  ⟨(some 76), none, .mov (.tmp 8)⟩,
  ⟨(some 77), none, .bin .and (.tmp 76) (.cst (LV.int .i64 8191))⟩,
  ⟨(some 78), none, .bin .mul (.tmp 77) (.cst (LV.int .i64 8))⟩,
  ⟨(some 79), none, .mov (.tmp 8)⟩,
  ⟨(some 80), none, .bin .and (.tmp 79) (.cst (LV.int .i64 16384))⟩,
  ⟨(some 81), none, .bin .neq (.tmp 80) (.cst (LV.int .i64 0))⟩,
  ⟨(some 82), none, .mov (.tmp 8)⟩,
  ⟨(some 83), none, .bin .and (.tmp 82) (.cst (LV.int .i64 8192))⟩,
  ⟨(some 84), none, .bin .neq (.tmp 83) (.cst (LV.int .i64 0))⟩,
  ⟨(some 85), none, .load 1 false (.tmp 1)⟩,
  ⟨(some 86), none, .mov (.tmp 5)⟩,
  ⟨(some 87), none, .slc 0 (.tmp 85) (some (.cst (LV.int .i64 20))) (some (.tmp 86))⟩,
  ⟨(some 88), none, .load 1 false (.tmp 1)⟩,
  ⟨(some 89), none, .mov (.tmp 5)⟩,
  ⟨(some 90), none, .mov (.tmp 7)⟩,
  ⟨(some 91), none, .slc 0 (.tmp 88) (some (.tmp 89)) (some (.tmp 90))⟩,
  ⟨(some 92), none, .build (LV.agg [(LV.int .i64 0), (LV.int .i64 0), (LV.int .i64 0), (LV.int .i64 0), (LV.int .i64 0), (LV.bool false), (LV.bool false), (LV.bytes [0, 0, 0, 0]), (LV.bytes [0, 0, 0, 0]), (LV.str []), (LV.str [])]) [(0, (.tmp 67)), (1, (.tmp 69)), (2, (.tmp 72)), (3, (.tmp 75)), (4, (.tmp 78)), (5, (.tmp 81)), (6, (.tmp 84)), (9, (.tmp 87)), (10, (.tmp 91))]⟩,
  ⟨(some 9), none, .alloc (LV.agg [(LV.int .i64 0), (LV.int .i64 0), (LV.int .i64 0), (LV.int .i64 0), (LV.int .i64 0), (LV.bool false), (LV.bool false), (LV.bytes [0, 0, 0, 0]), (LV.bytes [0, 0, 0, 0]), (LV.str []), (LV.str [])])⟩,
  ⟨none, none, .store 17 true (.tmp 9) (.tmp 92)⟩] []) (.seq (.reg [
  ⟨(some 93), none, .fieldAddr 7 7 (.tmp 9)⟩,
  ⟨(some 94), none, .slcArr 4 (.tmp 93) none none⟩,
  ⟨(some 95), none, .load 1 false (.tmp 1)⟩,
  ⟨(some 96), none, .slc 0 (.tmp 95) (some (.cst (LV.int .i64 12))) none⟩,
  ⟨(some 97), none, .copy (.tmp 94) (.tmp 96)⟩] []) (.seq (.reg [
  ⟨(some 98), none, .fieldAddr 8 11 (.tmp 9)⟩,
  ⟨(some 99), none, .slcArr 4 (.tmp 98) none none⟩,
  ⟨(some 100), none, .load 1 false (.tmp 1)⟩,
  ⟨(some 101), none, .slc 0 (.tmp 100) (some (.cst (LV.int .i64 16))) none⟩,
  ⟨(some 102), none, .copy (.tmp 99) (.tmp 101)⟩] []) (.seq (.seq (.reg [
  ⟨(some 103), none, .mov (.tmp 8)⟩,
  ⟨(some 104), none, .bin .and (.tmp 103) (.cst (LV.int .i64 32768))⟩,
  ⟨(some 105), none, .bin .neq (.tmp 104) (.cst (LV.int .i64 0))⟩,
  ⟨(some 106), none, .mov (.tmp 105)⟩,
  ⟨(some 107), (some (106, false)), .load 17 true (.tmp 9)⟩,
  ⟨(some 108), (some (106, false)), .call id_ip4_why [(.tmp 107)]⟩,
  ⟨(some 109), (some (106, false)), .bin .neq (.tmp 108) (.cst (LV.int .i64 0))⟩,
  ⟨(some 110), none, .pick (.tmp 106) (.cst (LV.bool true)) (.tmp 109)⟩] []) (.cond (.tmp 110) (.seq (.reg [
  ⟨(some 111), none, .load 17 true (.tmp 4)⟩,
  ⟨(some 112), none, .call id_ip4_fault [(.cst (LV.int .i64 8))]⟩,
  ⟨none, none, .store 17 true (.tmp 2) (.tmp 111)⟩,
  ⟨(some 3), none, .mov (.tmp 112)⟩] []) .ret) .skip)) (.seq (.reg [
  ⟨(some 113), none, .load 17 true (.tmp 9)⟩,
  ⟨none, none, .store 17 true (.tmp 2) (.tmp 113)⟩,
  ⟨(some 3), none, .mov (.cst LV.nili)⟩] []) .ret))))))))))))), [.cell 2 17 true, .tmp 3]⟩
/-- interpreter/interpreterref03.Parse -/
def c_interpreterref03_Parse : MFn := ⟨1, 108, (.seq (.reg [
  ⟨(some 2), none, .alloc (LV.agg [(LV.int .i64 0), (LV.int .i64 0), (LV.int .i64 0), (LV.int .i64 0), (LV.int .i64 0), (LV.bool false), (LV.bool false), (LV.bytes [0, 0, 0, 0]), (LV.bytes [0, 0, 0, 0]), (LV.str []), (LV.str [])])⟩,
  ⟨(some 3), none, .mov (.cst (LV.int .i64 0))⟩] []) (.seq (.reg [
  ⟨(some 10), none, .build (LV.agg [(LV.int .i64 0), (LV.int .i64 0), (LV.int .i64 0), (LV.int .i64 0), (LV.int .i64 0), (LV.bool false), (LV.bool false), (LV.bytes [0, 0, 0, 0]), (LV.bytes [0, 0, 0, 0]), (LV.str []), (LV.str [])]) []⟩,
  ⟨(some 4), none, .alloc (LV.agg [(LV.int .i64 0), (LV.int .i64 0), (LV.int .i64 0), (LV.int .i64 0), (LV.int .i64 0), (LV.bool false), (LV.bool false), (LV.bytes [0, 0, 0, 0]), (LV.bytes [0, 0, 0, 0]), (LV.str []), (LV.str [])])⟩,
  ⟨none, none, .store 17 true (.tmp 4) (.tmp 10)⟩] []) (.seq (.seq (.reg [
  ⟨(some 11), none, .mov (.tmp 0)⟩,
  ⟨(some 12), none, .len true (.tmp 11)⟩,
  ⟨(some 13), none, .bin .lss (.tmp 12) (.cst (LV.int .i64 20))⟩] []) (.cond (.tmp 13) (.seq (.reg [
  ⟨(some 14), none, .load 17 true (.tmp 4)⟩,
  ⟨none, none, .store 17 true (.tmp 2) (.tmp 14)⟩,
  ⟨(some 3), none, .mov (.cst (LV.int .i64 7))⟩] []) .ret) .skip)) (.seq (.reg [
  ⟨(some 15), none, .mov (.tmp 0)⟩,
  ⟨(some 16), none, .idxStr (.tmp 15) (.cst (LV.int .i64 0))⟩,
  ⟨(some 17), none, .conv .i64 (.tmp 16)⟩,
  ⟨(some 18), none, .bin .sub (.tmp 17) (.cst (LV.int .i64 64))⟩,
  ⟨(some 19), none, .bin .mul (.cst (LV.int .i64 4)) (.tmp 18)⟩,
  ⟨(some 5), none, .mov (.tmp 19)⟩] []) (.seq (.seq (.reg [
  ⟨(some 20), none, .mov (.tmp 5)⟩,
  ⟨(some 21), none, .bin .lss (.tmp 20) (.cst (LV.int .i64 20))⟩,
  ⟨(some 22), none, .mov (.tmp 21)⟩,
  ⟨(some 23), (some (22, false)), .mov (.tmp 5)⟩,
  ⟨(some 24), (some (22, false)), .bin .gtr (.tmp 23) (.cst (LV.int .i64 60))⟩,
  ⟨(some 25), none, .pick (.tmp 22) (.cst (LV.bool true)) (.tmp 24)⟩] []) (.cond (.tmp 25) (.seq (.reg [
  ⟨(some 26), none, .load 17 true (.tmp 4)⟩,
  ⟨none, none, .store 17 true (.tmp 2) (.tmp 26)⟩,
  ⟨(some 3), none, .mov (.cst (LV.int .i64 8))⟩] []) .ret) .skip)) (.seq (.seq (.reg [
  ⟨(some 27), none, .mov (.tmp 0)⟩,
  ⟨(some 28), none, .len true (.tmp 27)⟩,
  ⟨(some 29), none, .mov (.tmp 5)⟩,
  ⟨(some 30), none, .bin .lss (.tmp 28) (.tmp 29)⟩] []) (.cond (.tmp 30) (.seq (.reg [
  ⟨(some 31), none, .load 17 true (.tmp 4)⟩,
  ⟨none, none, .store 17 true (.tmp 2) (.tmp 31)⟩,
  ⟨(some 3), none, .mov (.cst (LV.int .i64 7))⟩] []) .ret) .skip)) (.seq (.seq (.reg [
  ⟨(some 32), none, .mov (.tmp 0)⟩,
  ⟨(some 33), none, .mov (.tmp 5)⟩,
  ⟨(some 34), none, .slc 0 (.tmp 32) none (some (.tmp 33))⟩,
  ⟨(some 35), none, .call id_interpreterref02_Of [(.tmp 34)]⟩,
  ⟨(some 36), none, .bin .neq (.tmp 35) (.cst (LV.int .i64 0))⟩] []) (.cond (.tmp 36) (.seq (.reg [
  ⟨(some 37), none, .load 17 true (.tmp 4)⟩,
  ⟨none, none, .store 17 true (.tmp 2) (.tmp 37)⟩,
  ⟨(some 3), none, .mov (.cst (LV.int .i64 9))⟩] []) .ret) .skip)) (.seq (.reg [
  ⟨(some 38), none, .mov (.tmp 0)⟩,
  ⟨(some 39), none, .call id_interpreterref03_number [(.tmp 38), (.cst (LV.int .i64 2))]⟩,
  ⟨(some 6), none, .mov (.tmp 39)⟩] []) (.seq (.seq (.reg [
  ⟨(some 40), none, .mov (.tmp 6)⟩,
  ⟨(some 41), none, .mov (.tmp 5)⟩,
  ⟨(some 42), none, .bin .lss (.tmp 40) (.tmp 41)⟩] []) (.cond (.tmp 42) (.seq (.reg [
  ⟨(some 43), none, .load 17 true (.tmp 4)⟩,
  ⟨none, none, .store 17 true (.tmp 2) (.tmp 43)⟩,
  ⟨(some 3), none, .mov (.cst (LV.int .i64 8))⟩] []) .ret) .skip)) (.seq (.seq (.reg [
  ⟨(some 44), none, .mov (.tmp 0)⟩,
  ⟨(some 45), none, .len true (.tmp 44)⟩,
  ⟨(some 46), none, .mov (.tmp 6)⟩,
  ⟨(some 47), none, .bin .lss (.tmp 45) (.tmp 46)⟩] []) (.cond (.tmp 47) (.seq (.reg [
  ⟨(some 48), none, .load 17 true (.tmp 4)⟩,
  ⟨none, none, .store 17 true (.tmp 2) (.tmp 48)⟩,
  ⟨(some 3), none, .mov (.cst (LV.int .i64 7))⟩] []) .ret) .skip)) (.seq (.reg [
  ⟨(some 49), none, .mov (.tmp 0)⟩,
  ⟨(some 50), none, .call id_interpreterref03_number [(.tmp 49), (.cst (LV.int .i64 6))]⟩,
  ⟨(some 7), none, .mov (.tmp 50)⟩] []) (.seq (.reg [
  ⟨(some 51), none, .mov (.tmp 0)⟩,
  ⟨(some 52), none, .idxStr (.tmp 51) (.cst (LV.int .i64 1))⟩,
  ⟨(some 53), none, .conv .i64 (.tmp 52)⟩,
  ⟨(some 54), none, .mov (.tmp 0)⟩,
  ⟨(some 55), none, .call id_interpreterref03_number [(.tmp 54), (.cst (LV.int .i64 4))]⟩,
  ⟨(some 56), none, .mov (.tmp 0)⟩,
  ⟨(some 57), none, .idxStr (.tmp 56) (.cst (LV.int .i64 8))⟩,
  ⟨(some 58), none, .conv .i64 (.tmp 57)⟩,
  ⟨(some 59), none, .mov (.tmp 0)⟩,
  ⟨(some 60), none, .idxStr (.tmp 59) (.cst (LV.int .i64 9))⟩,
  ⟨(some 61), none, .conv .i64 (.tmp 60)⟩,
  ⟨(some 62), none, .mov (.tmp 7)⟩,
  ⟨(some 63), none, .bin .rem (.tmp 62) (.cst (LV.int .i64 8192))⟩,
  ⟨(some 64), none, .bin .mul (.tmp 63) (.cst (LV.int .i64 8))⟩,
  ⟨(some 65), none, .mov (.tmp 7)⟩,
  ⟨(some 66), none, .bin .quo (.tmp 65) (.cst (LV.int .i64 16384))⟩,
  ⟨(some 67), none, .bin .rem (.tmp 66) (.cst (LV.int .i64 2))⟩,
  ⟨(some 68), none, .bin .eql (.tmp 67) (.cst (LV.int .i64 1))⟩,
  ⟨(some 69), none, .mov (.tmp 7)⟩,
  ⟨(some 70), none, .bin .quo (.tmp 69) (.cst (LV.int .i64 8192))⟩,
  ⟨(some 71), none, .bin .rem (.tmp 70) (.cst (LV.int .i64 2))⟩,
  ⟨(some 72), none, .bin .eql (.tmp 71) (.cst (LV.int .i64 1))⟩,
  ⟨(some 73), none, .mov (.tmp 0)⟩,
  ⟨(some 74), none, .mov (.tmp 5)⟩,
  ⟨(some 75), none, .slc 0 (.tmp 73) (some (.cst (LV.int .i64 20))) (some (.tmp 74))⟩,
  ⟨(some 76), none, .mov (.tmp 0)⟩,
  ⟨(some 77), none, .mov (.tmp 5)⟩,
  ⟨(some 78), none, .mov (.tmp 6)⟩,
  ⟨(some 79), none, .slc 0 (.tmp 76) (some (.tmp 77)) (some (.tmp 78))⟩,
  ⟨(some 80), none, .build (LV.agg [(LV.int .i64 0), (LV.int .i64 0), (LV.int .i64 0), (LV.int .i64 0), (LV.int .i64 0), (LV.bool false), (LV.bool false), (LV.bytes [0, 0, 0, 0]), (LV.bytes [0, 0, 0, 0]), (LV.str []), (LV.str [])]) [(0, (.tmp 53)), (1, (.tmp 55)), (2, (.tmp 58)), (3, (.tmp 61)), (4, (.tmp 64)), (5, (.tmp 68)), (6, (.tmp 72)), (9, (.tmp 75)), (10, (.tmp 79))]⟩,
  ⟨(some 8), none, .alloc (LV.agg [(LV.int .i64 0), (LV.int .i64 0), (LV.int .i64 0), (LV.int .i64 0), (LV.int .i64 0), (LV.bool false), (LV.bool false), (LV.bytes [0, 0, 0, 0]), (LV.bytes [0, 0, 0, 0]), (LV.str []), (LV.str [])])⟩,
  ⟨none, none, .store 17 true (.tmp 8) (.tmp 80)⟩] []) (.seq (.seq (.reg [
  ⟨(some 9), none, .mov (.cst (LV.int .i64 0))⟩] []) (.block 0 (.loop [9] [81, 82, 85, 86, 87, 88, 89, 90, 91, 92, 93, 94, 95, 96, 97, 98, 83, 84] (.seq (.seq (.reg [
  ⟨(some 81), none, .mov (.tmp 9)⟩,
  ⟨(some 82), none, .bin .lss (.tmp 81) (.cst (LV.int .i64 4))⟩] []) (.cond (.tmp 82) .skip (.exit 0))) (.seq (.block 1 (.seq (.reg [
  ⟨(some 85), none, .mov (.tmp 9)⟩,
  ⟨(some 86), none, .mov (.tmp 0)⟩,
  ⟨(some 87), none, .mov (.tmp 9)⟩,
  ⟨(some 88), none, .bin .add (.cst (LV.int .i64 12)) (.tmp 87)⟩,
  ⟨(some 89), none, .idxStr (.tmp 86) (.tmp 88)⟩,
  ⟨(some 90), none, .fieldAddr 7 7 (.tmp 8)⟩,
  ⟨(some 91), none, .idxAddr (some 4) 1 (.tmp 90) (.tmp 85)⟩,
  ⟨none, none, .store 1 false (.tmp 91) (.tmp 89)⟩] []) (.reg [
  ⟨(some 92), none, .mov (.tmp 9)⟩,
  ⟨(some 93), none, .mov (.tmp 0)⟩,
  ⟨(some 94), none, .mov (.tmp 9)⟩,
  ⟨(some 95), none, .bin .add (.cst (LV.int .i64 16)) (.tmp 94)⟩,
  ⟨(some 96), none, .idxStr (.tmp 93) (.tmp 95)⟩,
  ⟨(some 97), none, .fieldAddr 8 11 (.tmp 8)⟩,
  ⟨(some 98), none, .idxAddr (some 4) 1 (.tmp 97) (.tmp 92)⟩,
  ⟨none, none, .store 1 false (.tmp 98) (.tmp 96)⟩] []))) (.reg [
  ⟨(some 83), none, .mov (.tmp 9)⟩,
  ⟨(some 84), none, .bin .add (.tmp 83) (.cst (LV.int .i64 1))⟩,
  ⟨(some 9), none, .mov (.tmp 84)⟩] [])))))) (.seq (.seq (.reg [
  ⟨(some 99), none, .mov (.tmp 7)⟩,
  ⟨(some 100), none, .bin .geq (.tmp 99) (.cst (LV.int .i64 32768))⟩,
  ⟨(some 101), none, .mov (.tmp 100)⟩,
  ⟨(some 102), (some (101, false)), .load 17 true (.tmp 8)⟩,
  ⟨(some 103), (some (101, false)), .call id_interpreterref03_Why [(.tmp 102)]⟩,
  ⟨(some 104), (some (101, false)), .bin .neq (.tmp 103) (.cst (LV.int .i64 0))⟩,
  ⟨(some 105), none, .pick (.tmp 101) (.cst (LV.bool true)) (.tmp 104)⟩] []) (.cond (.tmp 105) (.seq (.reg [
  ⟨(some 106), none, .load 17 true (.tmp 4)⟩,
  ⟨none, none, .store 17 true (.tmp 2) (.tmp 106)⟩,
  ⟨(some 3), none, .mov (.cst (LV.int .i64 8))⟩] []) .ret) .skip)) (.seq (.reg [
  ⟨(some 107), none, .load 17 true (.tmp 8)⟩,
  ⟨none, none, .store 17 true (.tmp 2) (.tmp 107)⟩,
  ⟨(some 3), none, .mov (.cst (LV.int .i64 0))⟩] []) .ret))))))))))))))), [.cell 2 17 true, .tmp 3]⟩
/-- interpreter/interpreterref02.Of -/
def c_interpreterref02_Of : MFn := ⟨1, 7, (.seq (.reg [
  ⟨(some 2), none, .mov (.cst (LV.int .i64 0))⟩] []) (.seq (.reg [
  ⟨(some 3), none, .mov (.tmp 0)⟩,
  ⟨(some 4), none, .call id_interpreterref02_Words [(.tmp 3)]⟩,
  ⟨(some 5), none, .call id_interpreterref02_Total [(.tmp 4)]⟩,
  ⟨(some 6), none, .bin .sub (.cst (LV.int .i64 65535)) (.tmp 5)⟩,
  ⟨(some 2), none, .mov (.tmp 6)⟩] []) .ret)), [.tmp 2]⟩
/-- interpreter/sum.Right -/
def c_sum_Right : MFn := ⟨1, 6, (.seq (.reg [
  ⟨(some 2), none, .mov (.cst (LV.bool false))⟩] []) (.seq (.reg [
  ⟨(some 3), none, .mov (.tmp 0)⟩,
  ⟨(some 4), none, .call id_sum_Of [(.tmp 3)]⟩,
  ⟨(some 5), none, .bin .eql (.tmp 4) (.cst (LV.int .i64 0))⟩,
  ⟨(some 2), none, .mov (.tmp 5)⟩] []) .ret)), [.tmp 2]⟩
/-- interpreter/ip4.Routed -/
def c_ip4_Routed : MFn := ⟨1, 59, (.seq (.reg [
  ⟨(some 2), none, .mov (.cst (LV.bool false))⟩,
  ⟨(some 3), none, .mov (.cst LV.nili)⟩] []) (.seq (.reg [
  ⟨(some 4), none, .mov (.cst (LV.bool false))⟩] []) (.seq (.block 0 (.loop [0, 2, 3, 4] [5, 6, 7, 8, 9, 10, 11, 12, 13, 14, 15, 16, 17, 18, 19, 20, 21, 22, 23, 24, 25, 26, 27, 28, 29, 30, 31, 32, 33, 34, 35, 36, 37, 38, 39, 40, 41, 42, 43, 44, 45, 46, 47, 48, 49, 50, 51, 52, 53, 54, 55, 56, 57] (.seq (.seq (.reg [
  ⟨(some 5), none, .mov (.tmp 0)⟩,
  ⟨(some 6), none, .bin .neq (.tmp 5) (.cst (LV.str []))⟩,
  ⟨(some 7), none, .mov (.tmp 6)⟩,
  ⟨(some 8), (some (7, true)), .mov (.tmp 0)⟩,
  ⟨(some 9), (some (7, true)), .idxStr (.tmp 8) (.cst (LV.int .i64 0))⟩,
  ⟨(some 10), (some (7, true)), .bin .neq (.tmp 9) (.cst (LV.int .u8 0))⟩,
  ⟨(some 11), none, .pick (.tmp 7) (.tmp 10) (.cst (LV.bool false))⟩] []) (.cond (.tmp 11) .skip (.exit 0))) (.block 1 (.seq (.seq (.reg [
  ⟨(some 12), none, .mov (.tmp 0)⟩,
  ⟨(some 13), none, .idxStr (.tmp 12) (.cst (LV.int .i64 0))⟩,
  ⟨(some 14), none, .bin .eql (.tmp 13) (.cst (LV.int .u8 1))⟩] []) (.cond (.tmp 14) (.seq (.reg [
  ⟨(some 15), none, .mov (.tmp 0)⟩,
  ⟨(some 16), none, .slc 0 (.tmp 15) (some (.cst (LV.int .i64 1))) none⟩,
  ⟨(some 0), none, .mov (.tmp 16)⟩] []) (.exit 1)) .skip)) (.seq (.seq (.reg [
  ⟨(some 17), none, .mov (.tmp 0)⟩,
  ⟨(some 18), none, .len true (.tmp 17)⟩,
  ⟨(some 19), none, .bin .lss (.tmp 18) (.cst (LV.int .i64 2))⟩,
  ⟨(some 20), none, .mov (.tmp 19)⟩,
  ⟨(some 21), (some (20, false)), .mov (.tmp 0)⟩,
  ⟨(some 22), (some (20, false)), .idxStr (.tmp 21) (.cst (LV.int .i64 1))⟩,
  ⟨(some 23), (some (20, false)), .bin .lss (.tmp 22) (.cst (LV.int .u8 2))⟩,
  ⟨(some 24), none, .pick (.tmp 20) (.cst (LV.bool true)) (.tmp 23)⟩,
  ⟨(some 25), none, .mov (.tmp 24)⟩,
  ⟨(some 26), (some (25, false)), .mov (.tmp 0)⟩,
  ⟨(some 27), (some (25, false)), .idxStr (.tmp 26) (.cst (LV.int .i64 1))⟩,
  ⟨(some 28), (some (25, false)), .conv .i64 (.tmp 27)⟩,
  ⟨(some 29), (some (25, false)), .mov (.tmp 0)⟩,
  ⟨(some 30), (some (25, false)), .len true (.tmp 29)⟩,
  ⟨(some 31), (some (25, false)), .bin .gtr (.tmp 28) (.tmp 30)⟩,
  ⟨(some 32), none, .pick (.tmp 25) (.cst (LV.bool true)) (.tmp 31)⟩] []) (.cond (.tmp 32) (.seq (.reg [
  ⟨(some 33), none, .call id_ip4_fault [(.cst (LV.int .i64 8))]⟩,
  ⟨(some 2), none, .mov (.cst (LV.bool false))⟩,
  ⟨(some 3), none, .mov (.tmp 33)⟩] []) .ret) .skip)) (.seq (.seq (.reg [
  ⟨(some 34), none, .mov (.tmp 0)⟩,
  ⟨(some 35), none, .idxStr (.tmp 34) (.cst (LV.int .i64 0))⟩,
  ⟨(some 36), none, .bin .eql (.tmp 35) (.cst (LV.int .u8 131))⟩,
  ⟨(some 37), none, .mov (.tmp 36)⟩,
  ⟨(some 38), (some (37, false)), .mov (.tmp 0)⟩,
  ⟨(some 39), (some (37, false)), .idxStr (.tmp 38) (.cst (LV.int .i64 0))⟩,
  ⟨(some 40), (some (37, false)), .bin .eql (.tmp 39) (.cst (LV.int .u8 137))⟩,
  ⟨(some 41), none, .pick (.tmp 37) (.cst (LV.bool true)) (.tmp 40)⟩] []) (.cond (.tmp 41) (.seq (.seq (.reg [
  ⟨(some 42), none, .mov (.tmp 0)⟩,
  ⟨(some 43), none, .idxStr (.tmp 42) (.cst (LV.int .i64 1))⟩,
  ⟨(some 44), none, .bin .lss (.tmp 43) (.cst (LV.int .u8 3))⟩] []) (.cond (.tmp 44) (.seq (.reg [
  ⟨(some 45), none, .call id_ip4_fault [(.cst (LV.int .i64 8))]⟩,
  ⟨(some 2), none, .mov (.cst (LV.bool false))⟩,
  ⟨(some 3), none, .mov (.tmp 45)⟩] []) .ret) .skip)) (.reg [
  ⟨(some 46), none, .mov (.tmp 4)⟩,
  ⟨(some 47), none, .mov (.tmp 46)⟩,
  ⟨(some 48), (some (47, false)), .mov (.tmp 0)⟩,
  ⟨(some 49), (some (47, false)), .idxStr (.tmp 48) (.cst (LV.int .i64 2))⟩,
  ⟨(some 50), (some (47, false)), .mov (.tmp 0)⟩,
  ⟨(some 51), (some (47, false)), .idxStr (.tmp 50) (.cst (LV.int .i64 1))⟩,
  ⟨(some 52), (some (47, false)), .bin .leq (.tmp 49) (.tmp 51)⟩,
  ⟨(some 53), none, .pick (.tmp 47) (.cst (LV.bool true)) (.tmp 52)⟩,
  ⟨(some 4), none, .mov (.tmp 53)⟩] [])) .skip)) (.reg [
  ⟨(some 54), none, .mov (.tmp 0)⟩,
  ⟨(some 55), none, .mov (.tmp 0)⟩,
  ⟨(some 56), none, .idxStr (.tmp 55) (.cst (LV.int .i64 1))⟩,
  ⟨(some 57), none, .slc 0 (.tmp 54) (some (.tmp 56)) none⟩,
  ⟨(some 0), none, .mov (.tmp 57)⟩] [])))))))) (.seq (.reg [
  ⟨(some 58), none, .mov (.tmp 4)⟩,
  ⟨(some 2), none, .mov (.tmp 58)⟩,
  ⟨(some 3), none, .mov (.cst LV.nili)⟩] []) .ret)))), [.tmp 2, .tmp 3]⟩
/-- interpreter/interpreterref03.Routed -/
def c_interpreterref03_Routed : MFn := ⟨1, 78, (.seq (.reg [
  ⟨(some 2), none, .mov (.cst (LV.bool false))⟩,
  ⟨(some 3), none, .mov (.cst (LV.int .i64 0))⟩] []) (.seq (.reg [
  ⟨(some 4), none, .mov (.cst (LV.bool false))⟩] []) (.seq (.seq (.reg [
  ⟨(some 5), none, .mov (.cst (LV.int .i64 0))⟩] []) (.block 0 (.loop [5, 2, 3, 4] [6, 7, 8, 9, 10, 11, 12, 13, 14, 15, 16, 17, 18, 19, 20, 21, 22, 23, 24, 25, 26, 27, 28, 29, 30, 31, 32, 33, 34, 35, 36, 37, 38, 39, 40, 41, 42, 43, 44, 45, 46, 47, 48, 49, 50, 51, 52, 53, 54, 55, 56, 57, 58, 59, 60, 61, 62, 63, 64, 65, 66, 67, 68, 69, 70, 71, 72, 73, 74, 75, 76] (.seq (.seq (.reg [
  ⟨(some 6), none, .mov (.tmp 5)⟩,
  ⟨(some 7), none, .mov (.tmp 0)⟩,
  ⟨(some 8), none, .len true (.tmp 7)⟩,
  ⟨(some 9), none, .bin .lss (.tmp 6) (.tmp 8)⟩,
  ⟨(some 10), none, .mov (.tmp 9)⟩,
  ⟨(some 11), (some (10, true)), .mov (.tmp 0)⟩,
  ⟨(some 12), (some (10, true)), .mov (.tmp 5)⟩,
  ⟨(some 13), (some (10, true)), .idxStr (.tmp 11) (.tmp 12)⟩,
  ⟨(some 14), (some (10, true)), .bin .neq (.tmp 13) (.cst (LV.int .u8 0))⟩,
  ⟨(some 15), none, .pick (.tmp 10) (.tmp 14) (.cst (LV.bool false))⟩] []) (.cond (.tmp 15) .skip (.exit 0))) (.block 1 (.seq (.seq (.reg [
  ⟨(some 16), none, .mov (.tmp 0)⟩,
  ⟨(some 17), none, .mov (.tmp 5)⟩,
  ⟨(some 18), none, .idxStr (.tmp 16) (.tmp 17)⟩,
  ⟨(some 19), none, .bin .eql (.tmp 18) (.cst (LV.int .u8 1))⟩] []) (.cond (.tmp 19) (.seq (.reg [
  ⟨(some 20), none, .mov (.tmp 5)⟩,
  ⟨(some 21), none, .bin .add (.tmp 20) (.cst (LV.int .i64 1))⟩,
  ⟨(some 5), none, .mov (.tmp 21)⟩] []) (.exit 1)) .skip)) (.seq (.seq (.reg [
  ⟨(some 22), none, .mov (.tmp 5)⟩,
  ⟨(some 23), none, .bin .add (.tmp 22) (.cst (LV.int .i64 1))⟩,
  ⟨(some 24), none, .mov (.tmp 0)⟩,
  ⟨(some 25), none, .len true (.tmp 24)⟩,
  ⟨(some 26), none, .bin .geq (.tmp 23) (.tmp 25)⟩,
  ⟨(some 27), none, .mov (.tmp 26)⟩,
  ⟨(some 28), (some (27, false)), .mov (.tmp 0)⟩,
  ⟨(some 29), (some (27, false)), .mov (.tmp 5)⟩,
  ⟨(some 30), (some (27, false)), .bin .add (.tmp 29) (.cst (LV.int .i64 1))⟩,
  ⟨(some 31), (some (27, false)), .idxStr (.tmp 28) (.tmp 30)⟩,
  ⟨(some 32), (some (27, false)), .bin .lss (.tmp 31) (.cst (LV.int .u8 2))⟩,
  ⟨(some 33), none, .pick (.tmp 27) (.cst (LV.bool true)) (.tmp 32)⟩,
  ⟨(some 34), none, .mov (.tmp 33)⟩,
  ⟨(some 35), (some (34, false)), .mov (.tmp 5)⟩,
  ⟨(some 36), (some (34, false)), .mov (.tmp 0)⟩,
  ⟨(some 37), (some (34, false)), .mov (.tmp 5)⟩,
  ⟨(some 38), (some (34, false)), .bin .add (.tmp 37) (.cst (LV.int .i64 1))⟩,
  ⟨(some 39), (some (34, false)), .idxStr (.tmp 36) (.tmp 38)⟩,
  ⟨(some 40), (some (34, false)), .conv .i64 (.tmp 39)⟩,
  ⟨(some 41), (some (34, false)), .bin .add (.tmp 35) (.tmp 40)⟩,
  ⟨(some 42), (some (34, false)), .mov (.tmp 0)⟩,
  ⟨(some 43), (some (34, false)), .len true (.tmp 42)⟩,
  ⟨(some 44), (some (34, false)), .bin .gtr (.tmp 41) (.tmp 43)⟩,
  ⟨(some 45), none, .pick (.tmp 34) (.cst (LV.bool true)) (.tmp 44)⟩] []) (.cond (.tmp 45) (.seq (.reg [
  ⟨(some 2), none, .mov (.cst (LV.bool false))⟩,
  ⟨(some 3), none, .mov (.cst (LV.int .i64 8))⟩] []) .ret) .skip)) (.seq (.seq (.reg [
  ⟨(some 46), none, .mov (.tmp 0)⟩,
  ⟨(some 47), none, .mov (.tmp 5)⟩,
  ⟨(some 48), none, .idxStr (.tmp 46) (.tmp 47)⟩,
  ⟨(some 49), none, .bin .eql (.tmp 48) (.cst (LV.int .u8 131))⟩,
  ⟨(some 50), none, .mov (.tmp 49)⟩,
  ⟨(some 51), (some (50, false)), .mov (.tmp 0)⟩,
  ⟨(some 52), (some (50, false)), .mov (.tmp 5)⟩,
  ⟨(some 53), (some (50, false)), .idxStr (.tmp 51) (.tmp 52)⟩,
  ⟨(some 54), (some (50, false)), .bin .eql (.tmp 53) (.cst (LV.int .u8 137))⟩,
  ⟨(some 55), none, .pick (.tmp 50) (.cst (LV.bool true)) (.tmp 54)⟩] []) (.cond (.tmp 55) (.seq (.seq (.reg [
  ⟨(some 56), none, .mov (.tmp 0)⟩,
  ⟨(some 57), none, .mov (.tmp 5)⟩,
  ⟨(some 58), none, .bin .add (.tmp 57) (.cst (LV.int .i64 1))⟩,
  ⟨(some 59), none, .idxStr (.tmp 56) (.tmp 58)⟩,
  ⟨(some 60), none, .bin .lss (.tmp 59) (.cst (LV.int .u8 3))⟩] []) (.cond (.tmp 60) (.seq (.reg [
  ⟨(some 2), none, .mov (.cst (LV.bool false))⟩,
  ⟨(some 3), none, .mov (.cst (LV.int .i64 8))⟩] []) .ret) .skip)) (.seq (.reg [
  ⟨(some 61), none, .mov (.tmp 0)⟩,
  ⟨(some 62), none, .mov (.tmp 5)⟩,
  ⟨(some 63), none, .bin .add (.tmp 62) (.cst (LV.int .i64 2))⟩,
  ⟨(some 64), none, .idxStr (.tmp 61) (.tmp 63)⟩,
  ⟨(some 65), none, .mov (.tmp 0)⟩,
  ⟨(some 66), none, .mov (.tmp 5)⟩,
  ⟨(some 67), none, .bin .add (.tmp 66) (.cst (LV.int .i64 1))⟩,
  ⟨(some 68), none, .idxStr (.tmp 65) (.tmp 67)⟩,
  ⟨(some 69), none, .bin .leq (.tmp 64) (.tmp 68)⟩] []) (.cond (.tmp 69) (.reg [
  ⟨(some 4), none, .mov (.cst (LV.bool true))⟩] []) .skip))) .skip)) (.reg [
  ⟨(some 70), none, .mov (.tmp 5)⟩,
  ⟨(some 71), none, .mov (.tmp 0)⟩,
  ⟨(some 72), none, .mov (.tmp 5)⟩,
  ⟨(some 73), none, .bin .add (.tmp 72) (.cst (LV.int .i64 1))⟩,
  ⟨(some 74), none, .idxStr (.tmp 71) (.tmp 73)⟩,
  ⟨(some 75), none, .conv .i64 (.tmp 74)⟩,
  ⟨(some 76), none, .bin .add (.tmp 70) (.tmp 75)⟩,
  ⟨(some 5), none, .mov (.tmp 76)⟩] []))))))))) (.seq (.reg [
  ⟨(some 77), none, .mov (.tmp 4)⟩,
  ⟨(some 2), none, .mov (.tmp 77)⟩,
  ⟨(some 3), none, .mov (.cst (LV.int .i64 0))⟩] []) .ret)))), [.tmp 2, .tmp 3]⟩
/-- interpreter/interpreterlaw03.example -/
def c_interpreterlaw03_example : MFn := ⟨0, 4, (.seq (.reg [
  ⟨(some 0), none, .alloc (LV.agg [(LV.int .i64 0), (LV.int .i64 0), (LV.int .i64 0), (LV.int .i64 0), (LV.int .i64 0), (LV.bool false), (LV.bool false), (LV.bytes [0, 0, 0, 0]), (LV.bytes [0, 0, 0, 0]), (LV.str []), (LV.str [])])⟩] []) (.seq (.reg [
  ⟨(some 1), none, .build (LV.bytes [0, 0, 0, 0]) [(0, (.cst (LV.int .u8 10))), (1, (.cst (LV.int .u8 0))), (2, (.cst (LV.int .u8 0))), (3, (.cst (LV.int .u8 1)))]⟩,
  ⟨(some 2), none, .build (LV.bytes [0, 0, 0, 0]) [(0, (.cst (LV.int .u8 10))), (1, (.cst (LV.int .u8 0))), (2, (.cst (LV.int .u8 0))), (3, (.cst (LV.int .u8 2)))]⟩,
  ⟨(some 3), none, .build (LV.agg [(LV.int .i64 0), (LV.int .i64 0), (LV.int .i64 0), (LV.int .i64 0), (LV.int .i64 0), (LV.bool false), (LV.bool false), (LV.bytes [0, 0, 0, 0]), (LV.bytes [0, 0, 0, 0]), (LV.str []), (LV.str [])]) [(1, (.cst (LV.int .i64 1))), (2, (.cst (LV.int .i64 64))), (3, (.cst (LV.int .i64 17))), (7, (.tmp 1)), (8, (.tmp 2)), (10, (.cst (LV.str [104, 105])))]⟩,
  ⟨none, none, .store 17 true (.tmp 0) (.tmp 3)⟩] []) .ret)), [.cell 0 17 true]⟩
/-- interpreter/ip4.why -/
def c_ip4_why : MFn := ⟨1, 79, (.seq (.reg [
  ⟨(some 1), none, .box (.tmp 0)⟩,
  ⟨(some 2), none, .mov (.cst (LV.int .i64 0))⟩] []) (.seq (.block 0 (.seq (.reg [
  ⟨(some 4), none, .fieldAddr 0 0 (.tmp 1)⟩,
  ⟨(some 5), none, .load 1 false (.tmp 4)⟩,
  ⟨(some 6), none, .fieldAddr 2 2 (.tmp 1)⟩,
  ⟨(some 7), none, .load 1 false (.tmp 6)⟩,
  ⟨(some 8), none, .fieldAddr 3 3 (.tmp 1)⟩,
  ⟨(some 9), none, .load 1 false (.tmp 8)⟩,
  ⟨(some 10), none, .bsl (LV.int .i64 0) 3 [(0, (.tmp 5)), (1, (.tmp 7)), (2, (.tmp 9))]⟩,
  ⟨(some 11), none, .call id_ip4_byteful [(.tmp 10)]⟩,
  ⟨(some 12), none, .un .not (.tmp 11)⟩,
  ⟨(some 13), none, .mov (.tmp 12)⟩,
  ⟨(some 14), (some (13, false)), .fieldAddr 1 1 (.tmp 1)⟩,
  ⟨(some 15), (some (13, false)), .load 1 false (.tmp 14)⟩,
  ⟨(some 16), (some (13, false)), .bin .lss (.tmp 15) (.cst (LV.int .i64 0))⟩,
  ⟨(some 17), none, .pick (.tmp 13) (.cst (LV.bool true)) (.tmp 16)⟩,
  ⟨(some 18), none, .mov (.tmp 17)⟩,
  ⟨(some 19), (some (18, false)), .fieldAddr 1 1 (.tmp 1)⟩,
  ⟨(some 20), (some (18, false)), .load 1 false (.tmp 19)⟩,
  ⟨(some 21), (some (18, false)), .bin .gtr (.tmp 20) (.cst (LV.int .i64 65535))⟩,
  ⟨(some 22), none, .pick (.tmp 18) (.cst (LV.bool true)) (.tmp 21)⟩,
  ⟨(some 23), none, .mov (.tmp 22)⟩,
  ⟨(some 24), (some (23, false)), .fieldAddr 4 4 (.tmp 1)⟩,
  ⟨(some 25), (some (23, false)), .load 1 false (.tmp 24)⟩,
  ⟨(some 26), (some (23, false)), .bin .lss (.tmp 25) (.cst (LV.int .i64 0))⟩,
  ⟨(some 27), none, .pick (.tmp 23) (.cst (LV.bool true)) (.tmp 26)⟩,
  ⟨(some 28), none, .mov (.tmp 27)⟩,
  ⟨(some 29), (some (28, false)), .fieldAddr 4 4 (.tmp 1)⟩,
  ⟨(some 30), (some (28, false)), .load 1 false (.tmp 29)⟩,
  ⟨(some 31), (some (28, false)), .bin .gtr (.tmp 30) (.cst (LV.int .i64 65528))⟩,
  ⟨(some 32), none, .pick (.tmp 28) (.cst (LV.bool true)) (.tmp 31)⟩,
  ⟨(some 33), none, .mov (.tmp 32)⟩,
  ⟨(some 34), (some (33, false)), .fieldAddr 4 4 (.tmp 1)⟩,
  ⟨(some 35), (some (33, false)), .load 1 false (.tmp 34)⟩,
  ⟨(some 36), (some (33, false)), .bin .rem (.tmp 35) (.cst (LV.int .i64 8))⟩,
  ⟨(some 37), (some (33, false)), .bin .neq (.tmp 36) (.cst (LV.int .i64 0))⟩,
  ⟨(some 38), none, .pick (.tmp 33) (.cst (LV.bool true)) (.tmp 37)⟩,
  ⟨(some 3), none, .mov (.tmp 38)⟩] []) (.cond (.tmp 3) (.seq (.reg [
  ⟨(some 2), none, .mov (.cst (LV.int .i64 13))⟩] []) .ret) (.seq (.reg [
  ⟨(some 40), none, .fieldAddr 9 15 (.tmp 1)⟩,
  ⟨(some 41), none, .load 1 false (.tmp 40)⟩,
  ⟨(some 42), none, .len true (.tmp 41)⟩,
  ⟨(some 43), none, .bin .gtr (.tmp 42) (.cst (LV.int .i64 40))⟩,
  ⟨(some 44), none, .mov (.tmp 43)⟩,
  ⟨(some 45), (some (44, false)), .fieldAddr 9 15 (.tmp 1)⟩,
  ⟨(some 46), (some (44, false)), .load 1 false (.tmp 45)⟩,
  ⟨(some 47), (some (44, false)), .len true (.tmp 46)⟩,
  ⟨(some 48), (some (44, false)), .bin .rem (.tmp 47) (.cst (LV.int .i64 4))⟩,
  ⟨(some 49), (some (44, false)), .bin .neq (.tmp 48) (.cst (LV.int .i64 0))⟩,
  ⟨(some 50), none, .pick (.tmp 44) (.cst (LV.bool true)) (.tmp 49)⟩,
  ⟨(some 51), none, .mov (.tmp 50)⟩,
  ⟨(some 52), (some (51, false)), .fieldAddr 6 6 (.tmp 1)⟩,
  ⟨(some 53), (some (51, false)), .load 1 false (.tmp 52)⟩,
  ⟨(some 54), (some (51, false)), .mov (.tmp 53)⟩,
  ⟨(some 55), (some (54, true)), .fieldAddr 10 16 (.tmp 1)⟩,
  ⟨(some 56), (some (54, true)), .load 1 false (.tmp 55)⟩,
  ⟨(some 57), (some (54, true)), .bin .eql (.tmp 56) (.cst (LV.str []))⟩,
  ⟨(some 58), (some (54, true)), .mov (.tmp 57)⟩,
  ⟨(some 59), (some (58, false)), .fieldAddr 10 16 (.tmp 1)⟩,
  ⟨(some 60), (some (58, false)), .load 1 false (.tmp 59)⟩,
  ⟨(some 61), (some (58, false)), .len true (.tmp 60)⟩,
  ⟨(some 62), (some (58, false)), .bin .rem (.tmp 61) (.cst (LV.int .i64 8))⟩,
  ⟨(some 63), (some (58, false)), .bin .neq (.tmp 62) (.cst (LV.int .i64 0))⟩,
  ⟨(some 64), (some (54, true)), .pick (.tmp 58) (.cst (LV.bool true)) (.tmp 63)⟩,
  ⟨(some 65), (some (51, false)), .pick (.tmp 54) (.tmp 64) (.cst (LV.bool false))⟩,
  ⟨(some 66), none, .pick (.tmp 51) (.cst (LV.bool true)) (.tmp 65)⟩,
  ⟨(some 39), none, .mov (.tmp 66)⟩] []) (.cond (.tmp 39) (.seq (.reg [
  ⟨(some 2), none, .mov (.cst (LV.int .i64 8))⟩] []) .ret) (.seq (.reg [
  ⟨(some 68), none, .fieldAddr 10 16 (.tmp 1)⟩,
  ⟨(some 69), none, .load 1 false (.tmp 68)⟩,
  ⟨(some 70), none, .len true (.tmp 69)⟩,
  ⟨(some 71), none, .fieldAddr 9 15 (.tmp 1)⟩,
  ⟨(some 72), none, .load 1 false (.tmp 71)⟩,
  ⟨(some 73), none, .len true (.tmp 72)⟩,
  ⟨(some 74), none, .bin .sub (.cst (LV.int .i64 65515)) (.tmp 73)⟩,
  ⟨(some 75), none, .fieldAddr 4 4 (.tmp 1)⟩,
  ⟨(some 76), none, .load 1 false (.tmp 75)⟩,
  ⟨(some 77), none, .bin .sub (.tmp 74) (.tmp 76)⟩,
  ⟨(some 78), none, .bin .gtr (.tmp 70) (.tmp 77)⟩,
  ⟨(some 67), none, .mov (.tmp 78)⟩] []) (.cond (.tmp 67) (.seq (.reg [
  ⟨(some 2), none, .mov (.cst (LV.int .i64 3))⟩] []) .ret) .skip))))))) (.seq (.reg [
  ⟨(some 2), none, .mov (.cst (LV.int .i64 0))⟩] []) .ret))), [.tmp 2]⟩
/-- interpreter/ip4.fault -/
def c_ip4_fault : MFn := ⟨1, 7, (.seq (.reg [
  ⟨(some 2), none, .mov (.cst LV.nili)⟩] []) (.seq (.reg [
  ⟨(some 3), none, .mov (.tmp 0)⟩,
  ⟨(some 4), none, .build (LV.agg [(LV.int .i64 0), (LV.int .i64 0)]) [(0, (.tmp 3))]⟩,
  ⟨(some 5), none, .box (.tmp 4)⟩,
  ⟨(some 6), none, .mkIface ty_ptr_num_Fault (.tmp 5)⟩,
  ⟨(some 2), none, .mov (.tmp 6)⟩] []) .ret)), [.tmp 2]⟩
/-- interpreter/ip4.big -/
def c_ip4_big : MFn := ⟨2, 14, (.seq (.reg [
  ⟨(some 4), none, .mov (.cst (LV.str []))⟩] []) (.seq (.reg [
  ⟨(some 8), none, .mov (.tmp 0)⟩,
  ⟨(some 9), none, .mov (.tmp 1)⟩,
  ⟨(some 10), none, .call id_num_Big [(.tmp 8), (.tmp 9)]⟩,
  ⟨(some 7), none, .mov (.tmp 10)⟩,
  ⟨(some 11), none, .extract (.tmp 7) 0⟩,
  ⟨(some 12), none, .extract (.tmp 7) 1⟩,
  ⟨(some 5), none, .mov (.tmp 11)⟩,
  ⟨(some 6), none, .mov (.tmp 12)⟩] []) (.seq (.reg [
  ⟨(some 13), none, .mov (.tmp 5)⟩,
  ⟨(some 4), none, .mov (.tmp 13)⟩] []) .ret))), [.tmp 4]⟩
/-- interpreter/sum.Of -/
def c_sum_Of : MFn := ⟨1, 25, (.seq (.reg [
  ⟨(some 2), none, .mov (.cst (LV.int .i64 0))⟩] []) (.seq (.reg [
  ⟨(some 3), none, .mov (.cst (LV.int .i64 0))⟩,
  ⟨(some 4), none, .mov (.cst (LV.int .i64 0))⟩] []) (.seq (.seq (.reg [
  ⟨(some 7), none, .mov (.tmp 0)⟩,
  ⟨(some 8), none, .len false (.tmp 7)⟩,
  ⟨(some 9), none, .mov (.cst (LV.int .i64 0))⟩] []) (.block 0 (.loop [3, 4, 9] [10, 11, 12, 6, 13, 14, 15, 16, 17, 18, 19, 20, 21, 22] (.seq (.reg [
  ⟨(some 10), none, .bin .lss (.tmp 9) (.tmp 8)⟩] []) (.seq (.cond (.tmp 10) .skip (.exit 0)) (.seq (.block 1 (.seq (.reg [
  ⟨(some 11), none, .idxAddr none 1 (.tmp 7) (.tmp 9)⟩,
  ⟨(some 12), none, .load 1 false (.tmp 11)⟩,
  ⟨(some 6), none, .mov (.tmp 12)⟩] []) (.seq (.reg [
  ⟨(some 13), none, .mov (.tmp 3)⟩,
  ⟨(some 14), none, .mov (.tmp 4)⟩,
  ⟨(some 15), none, .mov (.tmp 6)⟩,
  ⟨(some 16), none, .call id_sum_add [(.tmp 13), (.tmp 14), (.tmp 15), (.cst (LV.int .u8 0))]⟩,
  ⟨(some 17), none, .call id_sum_fold [(.tmp 16)]⟩,
  ⟨(some 3), none, .mov (.tmp 17)⟩] []) (.reg [
  ⟨(some 18), none, .mov (.tmp 4)⟩,
  ⟨(some 19), none, .mov (.tmp 6)⟩,
  ⟨(some 20), none, .len true (.tmp 19)⟩,
  ⟨(some 21), none, .bin .add (.tmp 18) (.tmp 20)⟩,
  ⟨(some 4), none, .mov (.tmp 21)⟩] [])))) (.reg [
  ⟨(some 22), none, .bin .add (.tmp 9) (.cst (LV.int .i64 1))⟩,
  ⟨(some 9), none, .mov (.tmp 22)⟩] []))))))) (.seq (.reg [
  ⟨(some 23), none, .mov (.tmp 3)⟩,
  ⟨(some 24), none, .bin .sub (.cst (LV.int .i64 65535)) (.tmp 23)⟩,
  ⟨(some 2), none, .mov (.tmp 24)⟩] []) .ret)))), [.tmp 2]⟩
/-- interpreter/interpreterref03.Why -/
def c_interpreterref03_Why : MFn := ⟨1, 75, (.seq (.reg [
  ⟨(some 1), none, .box (.tmp 0)⟩,
  ⟨(some 2), none, .mov (.cst (LV.int .i64 0))⟩] []) (.seq (.seq (.reg [
  ⟨(some 3), none, .fieldAddr 0 0 (.tmp 1)⟩,
  ⟨(some 4), none, .load 1 false (.tmp 3)⟩,
  ⟨(some 5), none, .call id_interpreterref03_within [(.tmp 4), (.cst (LV.int .i64 255))]⟩,
  ⟨(some 6), none, .un .not (.tmp 5)⟩,
  ⟨(some 7), none, .mov (.tmp 6)⟩,
  ⟨(some 8), (some (7, false)), .fieldAddr 2 2 (.tmp 1)⟩,
  ⟨(some 9), (some (7, false)), .load 1 false (.tmp 8)⟩,
  ⟨(some 10), (some (7, false)), .call id_interpreterref03_within [(.tmp 9), (.cst (LV.int .i64 255))]⟩,
  ⟨(some 11), (some (7, false)), .un .not (.tmp 10)⟩,
  ⟨(some 12), none, .pick (.tmp 7) (.cst (LV.bool true)) (.tmp 11)⟩,
  ⟨(some 13), none, .mov (.tmp 12)⟩,
  ⟨(some 14), (some (13, false)), .fieldAddr 3 3 (.tmp 1)⟩,
  ⟨(some 15), (some (13, false)), .load 1 false (.tmp 14)⟩,
  ⟨(some 16), (some (13, false)), .call id_interpreterref03_within [(.tmp 15), (.cst (LV.int .i64 255))]⟩,
  ⟨(some 17), (some (13, false)), .un .not (.tmp 16)⟩,
  ⟨(some 18), none, .pick (.tmp 13) (.cst (LV.bool true)) (.tmp 17)⟩,
  ⟨(some 19), none, .mov (.tmp 18)⟩,
  ⟨(some 20), (some (19, false)), .fieldAddr 1 1 (.tmp 1)⟩,
  ⟨(some 21), (some (19, false)), .load 1 false (.tmp 20)⟩,
  ⟨(some 22), (some (19, false)), .call id_interpreterref03_within [(.tmp 21), (.cst (LV.int .i64 65535))]⟩,
  ⟨(some 23), (some (19, false)), .un .not (.tmp 22)⟩,
  ⟨(some 24), none, .pick (.tmp 19) (.cst (LV.bool true)) (.tmp 23)⟩,
  ⟨(some 25), none, .mov (.tmp 24)⟩,
  ⟨(some 26), (some (25, false)), .fieldAddr 4 4 (.tmp 1)⟩,
  ⟨(some 27), (some (25, false)), .load 1 false (.tmp 26)⟩,
  ⟨(some 28), (some (25, false)), .call id_interpreterref03_within [(.tmp 27), (.cst (LV.int .i64 65528))]⟩,
  ⟨(some 29), (some (25, false)), .un .not (.tmp 28)⟩,
  ⟨(some 30), none, .pick (.tmp 25) (.cst (LV.bool true)) (.tmp 29)⟩,
  ⟨(some 31), none, .mov (.tmp 30)⟩,
  ⟨(some 32), (some (31, false)), .fieldAddr 4 4 (.tmp 1)⟩,
  ⟨(some 33), (some (31, false)), .load 1 false (.tmp 32)⟩,
  ⟨(some 34), (some (31, false)), .bin .rem (.tmp 33) (.cst (LV.int .i64 8))⟩,
  ⟨(some 35), (some (31, false)), .bin .neq (.tmp 34) (.cst (LV.int .i64 0))⟩,
  ⟨(some 36), none, .pick (.tmp 31) (.cst (LV.bool true)) (.tmp 35)⟩] []) (.cond (.tmp 36) (.seq (.reg [
  ⟨(some 2), none, .mov (.cst (LV.int .i64 13))⟩] []) .ret) .skip)) (.seq (.seq (.reg [
  ⟨(some 37), none, .fieldAddr 9 15 (.tmp 1)⟩,
  ⟨(some 38), none, .load 1 false (.tmp 37)⟩,
  ⟨(some 39), none, .len true (.tmp 38)⟩,
  ⟨(some 40), none, .bin .gtr (.tmp 39) (.cst (LV.int .i64 40))⟩,
  ⟨(some 41), none, .mov (.tmp 40)⟩,
  ⟨(some 42), (some (41, false)), .fieldAddr 9 15 (.tmp 1)⟩,
  ⟨(some 43), (some (41, false)), .load 1 false (.tmp 42)⟩,
  ⟨(some 44), (some (41, false)), .len true (.tmp 43)⟩,
  ⟨(some 45), (some (41, false)), .bin .rem (.tmp 44) (.cst (LV.int .i64 4))⟩,
  ⟨(some 46), (some (41, false)), .bin .neq (.tmp 45) (.cst (LV.int .i64 0))⟩,
  ⟨(some 47), none, .pick (.tmp 41) (.cst (LV.bool true)) (.tmp 46)⟩] []) (.cond (.tmp 47) (.seq (.reg [
  ⟨(some 2), none, .mov (.cst (LV.int .i64 8))⟩] []) .ret) .skip)) (.seq (.seq (.reg [
  ⟨(some 48), none, .fieldAddr 6 6 (.tmp 1)⟩,
  ⟨(some 49), none, .load 1 false (.tmp 48)⟩,
  ⟨(some 50), none, .mov (.tmp 49)⟩,
  ⟨(some 51), (some (50, true)), .fieldAddr 10 16 (.tmp 1)⟩,
  ⟨(some 52), (some (50, true)), .load 1 false (.tmp 51)⟩,
  ⟨(some 53), (some (50, true)), .len true (.tmp 52)⟩,
  ⟨(some 54), (some (50, true)), .bin .eql (.tmp 53) (.cst (LV.int .i64 0))⟩,
  ⟨(some 55), (some (50, true)), .mov (.tmp 54)⟩,
  ⟨(some 56), (some (55, false)), .fieldAddr 10 16 (.tmp 1)⟩,
  ⟨(some 57), (some (55, false)), .load 1 false (.tmp 56)⟩,
  ⟨(some 58), (some (55, false)), .len true (.tmp 57)⟩,
  ⟨(some 59), (some (55, false)), .bin .rem (.tmp 58) (.cst (LV.int .i64 8))⟩,
  ⟨(some 60), (some (55, false)), .bin .neq (.tmp 59) (.cst (LV.int .i64 0))⟩,
  ⟨(some 61), (some (50, true)), .pick (.tmp 55) (.cst (LV.bool true)) (.tmp 60)⟩,
  ⟨(some 62), none, .pick (.tmp 50) (.tmp 61) (.cst (LV.bool false))⟩] []) (.cond (.tmp 62) (.seq (.reg [
  ⟨(some 2), none, .mov (.cst (LV.int .i64 8))⟩] []) .ret) .skip)) (.seq (.seq (.reg [
  ⟨(some 63), none, .fieldAddr 9 15 (.tmp 1)⟩,
  ⟨(some 64), none, .load 1 false (.tmp 63)⟩,
  ⟨(some 65), none, .len true (.tmp 64)⟩,
  ⟨(some 66), none, .bin .add (.cst (LV.int .i64 20)) (.tmp 65)⟩,
  ⟨(some 67), none, .fieldAddr 4 4 (.tmp 1)⟩,
  ⟨(some 68), none, .load 1 false (.tmp 67)⟩,
  ⟨(some 69), none, .bin .add (.tmp 66) (.tmp 68)⟩,
  ⟨(some 70), none, .fieldAddr 10 16 (.tmp 1)⟩,
  ⟨(some 71), none, .load 1 false (.tmp 70)⟩,
  ⟨(some 72), none, .len true (.tmp 71)⟩,
  ⟨(some 73), none, .bin .add (.tmp 69) (.tmp 72)⟩,
  ⟨(some 74), none, .bin .gtr (.tmp 73) (.cst (LV.int .i64 65535))⟩] []) (.cond (.tmp 74) (.seq (.reg [
  ⟨(some 2), none, .mov (.cst (LV.int .i64 3))⟩] []) .ret) .skip)) (.seq (.reg [
  ⟨(some 2), none, .mov (.cst (LV.int .i64 0))⟩] []) .ret)))))), [.tmp 2]⟩
/-- interpreter/ip4.Parse$1 -/
def c_ip4_Parse_1 : MFn := ⟨2, 15, (.seq (.reg [
  ⟨(some 3), none, .mov (.cst (LV.int .i64 0))⟩] []) (.seq (.reg [
  ⟨(some 4), none, .load 1 false (.tmp 1)⟩,
  ⟨(some 5), none, .mov (.tmp 0)⟩,
  ⟨(some 6), none, .idxStr (.tmp 4) (.tmp 5)⟩,
  ⟨(some 7), none, .conv .i64 (.tmp 6)⟩,
  ⟨(some 8), none, .bin .shl (.tmp 7) (.cst (LV.int .u64 8))⟩,
  ⟨(some 9), none, .load 1 false (.tmp 1)⟩,
  ⟨(some 10), none, .mov (.tmp 0)⟩,
  ⟨(some 11), none, .bin .add (.tmp 10) (.cst (LV.int .i64 1))⟩,
  ⟨(some 12), none, .idxStr (.tmp 9) (.tmp 11)⟩,
  ⟨(some 13), none, .conv .i64 (.tmp 12)⟩,
  ⟨(some 14), none, .bin .or (.tmp 8) (.tmp 13)⟩,
  ⟨(some 3), none, .mov (.tmp 14)⟩] []) .ret)), [.tmp 3]⟩
/-- interpreter/interpreterref03.number -/
def c_interpreterref03_number : MFn := ⟨2, 18, (.seq (.reg [
  ⟨(some 4), none, .mov (.cst (LV.int .i64 0))⟩] []) (.seq (.reg [
  ⟨(some 8), none, .mov (.tmp 0)⟩,
  ⟨(some 9), none, .mov (.tmp 1)⟩,
  ⟨(some 10), none, .build (LV.agg [(LV.str []), (LV.int .i64 0), (LV.int .i64 0), (LV.int .i64 0)]) [(0, (.tmp 8)), (1, (.tmp 9))]⟩,
  ⟨(some 11), none, .boxM (.tmp 10)⟩,
  ⟨(some 5), none, .mov (.tmp 11)⟩] []) (.seq (.reg [
  ⟨(some 13), none, .mov (.tmp 5)⟩,
  ⟨(some 14), none, .callRw id_interpreterref01_Reader_Number [(.tmp 13), (.cst (LV.int .i64 2))]⟩,
  ⟨(some 12), none, .mov (.tmp 14)⟩,
  ⟨(some 15), none, .extract (.tmp 12) 0⟩,
  ⟨(some 16), none, .extract (.tmp 12) 1⟩,
  ⟨(some 6), none, .mov (.tmp 15)⟩,
  ⟨(some 7), none, .mov (.tmp 16)⟩] []) (.seq (.reg [
  ⟨(some 17), none, .mov (.tmp 6)⟩,
  ⟨(some 4), none, .mov (.tmp 17)⟩] []) .ret)))), [.tmp 4]⟩
/-- interpreter/interpreterref02.Total -/
def c_interpreterref02_Total : MFn := ⟨1, 25, (.seq (.reg [
  ⟨(some 2), none, .mov (.cst (LV.int .i64 0))⟩] []) (.seq (.reg [
  ⟨(some 3), none, .mov (.cst (LV.int .i64 0))⟩] []) (.seq (.seq (.reg [
  ⟨(some 4), none, .mov (.cst (LV.int .i64 0))⟩] []) (.block 0 (.loop [3, 4] [5, 6, 7, 8, 11, 12, 13, 14, 15, 16, 9, 10] (.seq (.seq (.reg [
  ⟨(some 5), none, .mov (.tmp 4)⟩,
  ⟨(some 6), none, .mov (.tmp 0)⟩,
  ⟨(some 7), none, .len false (.tmp 6)⟩,
  ⟨(some 8), none, .bin .lss (.tmp 5) (.tmp 7)⟩] []) (.cond (.tmp 8) .skip (.exit 0))) (.seq (.block 1 (.reg [
  ⟨(some 11), none, .mov (.tmp 3)⟩,
  ⟨(some 12), none, .mov (.tmp 0)⟩,
  ⟨(some 13), none, .mov (.tmp 4)⟩,
  ⟨(some 14), none, .idxAddr none 1 (.tmp 12) (.tmp 13)⟩,
  ⟨(some 15), none, .load 1 false (.tmp 14)⟩,
  ⟨(some 16), none, .bin .add (.tmp 11) (.tmp 15)⟩,
  ⟨(some 3), none, .mov (.tmp 16)⟩] [])) (.reg [
  ⟨(some 9), none, .mov (.tmp 4)⟩,
  ⟨(some 10), none, .bin .add (.tmp 9) (.cst (LV.int .i64 1))⟩,
  ⟨(some 4), none, .mov (.tmp 10)⟩] [])))))) (.seq (.block 2 (.loop [3] [17, 18, 19, 20, 21, 22, 23] (.seq (.seq (.reg [
  ⟨(some 17), none, .mov (.tmp 3)⟩,
  ⟨(some 18), none, .bin .gtr (.tmp 17) (.cst (LV.int .i64 65535))⟩] []) (.cond (.tmp 18) .skip (.exit 2))) (.block 3 (.reg [
  ⟨(some 19), none, .mov (.tmp 3)⟩,
  ⟨(some 20), none, .bin .quo (.tmp 19) (.cst (LV.int .i64 65536))⟩,
  ⟨(some 21), none, .mov (.tmp 3)⟩,
  ⟨(some 22), none, .bin .rem (.tmp 21) (.cst (LV.int .i64 65536))⟩,
  ⟨(some 23), none, .bin .add (.tmp 20) (.tmp 22)⟩,
  ⟨(some 3), none, .mov (.tmp 23)⟩] []))))) (.seq (.reg [
  ⟨(some 24), none, .mov (.tmp 3)⟩,
  ⟨(some 2), none, .mov (.tmp 24)⟩] []) .ret))))), [.tmp 2]⟩
/-- interpreter/interpreterref02.Words -/
def c_interpreterref02_Words : MFn := ⟨1, 34, (.seq (.reg [
  ⟨(some 2), none, .mov (.cst LV.nils)⟩] []) (.seq (.reg [
  ⟨(some 3), none, .nilT 1⟩] []) (.seq (.seq (.reg [
  ⟨(some 5), none, .mov (.tmp 0)⟩,
  ⟨(some 6), none, .len true (.tmp 5)⟩,
  ⟨(some 7), none, .bin .rem (.tmp 6) (.cst (LV.int .i64 2))⟩,
  ⟨(some 8), none, .bin .eql (.tmp 7) (.cst (LV.int .i64 1))⟩] []) (.cond (.tmp 8) (.reg [
  ⟨(some 9), none, .mov (.tmp 0)⟩,
  ⟨(some 10), none, .bsl (LV.int .u8 0) 1 [(0, (.cst (LV.int .u8 0)))]⟩,
  ⟨(some 11), none, .b2s (.tmp 10)⟩,
  ⟨(some 12), none, .bin .add (.tmp 9) (.tmp 11)⟩,
  ⟨(some 0), none, .mov (.tmp 12)⟩] []) .skip)) (.seq (.seq (.reg [
  ⟨(some 4), none, .mov (.cst (LV.int .i64 0))⟩] []) (.block 0 (.loop [3, 4] [13, 14, 15, 16, 19, 20, 21, 22, 23, 24, 25, 26, 27, 28, 29, 30, 31, 32, 17, 18] (.seq (.seq (.reg [
  ⟨(some 13), none, .mov (.tmp 4)⟩,
  ⟨(some 14), none, .mov (.tmp 0)⟩,
  ⟨(some 15), none, .len true (.tmp 14)⟩,
  ⟨(some 16), none, .bin .lss (.tmp 13) (.tmp 15)⟩] []) (.cond (.tmp 16) .skip (.exit 0))) (.seq (.block 1 (.reg [
  ⟨(some 19), none, .mov (.tmp 3)⟩,
  ⟨(some 20), none, .mov (.tmp 0)⟩,
  ⟨(some 21), none, .mov (.tmp 4)⟩,
  ⟨(some 22), none, .idxStr (.tmp 20) (.tmp 21)⟩,
  ⟨(some 23), none, .conv .i64 (.tmp 22)⟩,
  ⟨(some 24), none, .bin .mul (.cst (LV.int .i64 256)) (.tmp 23)⟩,
  ⟨(some 25), none, .mov (.tmp 0)⟩,
  ⟨(some 26), none, .mov (.tmp 4)⟩,
  ⟨(some 27), none, .bin .add (.tmp 26) (.cst (LV.int .i64 1))⟩,
  ⟨(some 28), none, .idxStr (.tmp 25) (.tmp 27)⟩,
  ⟨(some 29), none, .conv .i64 (.tmp 28)⟩,
  ⟨(some 30), none, .bin .add (.tmp 24) (.tmp 29)⟩,
  ⟨(some 31), none, .bsl (LV.int .i64 0) 1 [(0, (.tmp 30))]⟩,
  ⟨(some 32), none, .append 1 8 (.tmp 19) (.tmp 31)⟩,
  ⟨(some 3), none, .mov (.tmp 32)⟩] [])) (.reg [
  ⟨(some 17), none, .mov (.tmp 4)⟩,
  ⟨(some 18), none, .bin .add (.tmp 17) (.cst (LV.int .i64 2))⟩,
  ⟨(some 4), none, .mov (.tmp 18)⟩] [])))))) (.seq (.reg [
  ⟨(some 33), none, .mov (.tmp 3)⟩,
  ⟨(some 2), none, .mov (.tmp 33)⟩] []) .ret))))), [.tmp 2]⟩
/-- interpreter/ip4.byteful -/
def c_ip4_byteful : MFn := ⟨1, 18, (.seq (.reg [
  ⟨(some 2), none, .mov (.cst (LV.bool false))⟩] []) (.seq (.seq (.reg [
  ⟨(some 5), none, .mov (.tmp 0)⟩,
  ⟨(some 6), none, .len false (.tmp 5)⟩,
  ⟨(some 7), none, .mov (.cst (LV.int .i64 0))⟩] []) (.block 0 (.loop [2, 7] [8, 9, 10, 4, 11, 12, 13, 14, 15, 16, 17] (.seq (.reg [
  ⟨(some 8), none, .bin .lss (.tmp 7) (.tmp 6)⟩] []) (.seq (.cond (.tmp 8) .skip (.exit 0)) (.seq (.block 1 (.seq (.reg [
  ⟨(some 9), none, .idxAddr none 1 (.tmp 5) (.tmp 7)⟩,
  ⟨(some 10), none, .load 1 false (.tmp 9)⟩,
  ⟨(some 4), none, .mov (.tmp 10)⟩] []) (.seq (.reg [
  ⟨(some 11), none, .mov (.tmp 4)⟩,
  ⟨(some 12), none, .bin .lss (.tmp 11) (.cst (LV.int .i64 0))⟩,
  ⟨(some 13), none, .mov (.tmp 12)⟩,
  ⟨(some 14), (some (13, false)), .mov (.tmp 4)⟩,
  ⟨(some 15), (some (13, false)), .bin .gtr (.tmp 14) (.cst (LV.int .i64 255))⟩,
  ⟨(some 16), none, .pick (.tmp 13) (.cst (LV.bool true)) (.tmp 15)⟩] []) (.cond (.tmp 16) (.seq (.reg [
  ⟨(some 2), none, .mov (.cst (LV.bool false))⟩] []) .ret) .skip)))) (.reg [
  ⟨(some 17), none, .bin .add (.tmp 7) (.cst (LV.int .i64 1))⟩,
  ⟨(some 7), none, .mov (.tmp 17)⟩] []))))))) (.seq (.reg [
  ⟨(some 2), none, .mov (.cst (LV.bool true))⟩] []) .ret))), [.tmp 2]⟩
/-- interpreter/num.Big -/
def c_num_Big : MFn := ⟨2, 55, (.seq (.reg [
  ⟨(some 4), none, .mov (.cst (LV.str []))⟩,
  ⟨(some 5), none, .mov (.cst LV.nili)⟩] []) (.seq (.block 0 (.seq (.reg [
  ⟨(some 9), none, .mov (.tmp 1)⟩,
  ⟨(some 10), none, .bin .neq (.tmp 9) (.cst (LV.int .i64 1))⟩,
  ⟨(some 11), none, .mov (.tmp 10)⟩,
  ⟨(some 12), (some (11, true)), .mov (.tmp 1)⟩,
  ⟨(some 13), (some (11, true)), .bin .neq (.tmp 12) (.cst (LV.int .i64 2))⟩,
  ⟨(some 14), none, .pick (.tmp 11) (.tmp 13) (.cst (LV.bool false))⟩,
  ⟨(some 15), none, .mov (.tmp 14)⟩,
  ⟨(some 16), (some (15, true)), .mov (.tmp 1)⟩,
  ⟨(some 17), (some (15, true)), .bin .neq (.tmp 16) (.cst (LV.int .i64 4))⟩,
  ⟨(some 18), none, .pick (.tmp 15) (.tmp 17) (.cst (LV.bool false))⟩,
  ⟨(some 8), none, .mov (.tmp 18)⟩] []) (.cond (.tmp 8) (.seq (.reg [
  ⟨(some 19), none, .build (LV.agg [(LV.int .i64 0), (LV.int .i64 0)]) [(0, (.cst (LV.int .i64 1)))]⟩,
  ⟨(some 20), none, .box (.tmp 19)⟩,
  ⟨(some 21), none, .mkIface ty_ptr_num_Fault (.tmp 20)⟩,
  ⟨(some 4), none, .mov (.cst (LV.str []))⟩,
  ⟨(some 5), none, .mov (.tmp 21)⟩] []) .ret) (.seq (.reg [
  ⟨(some 23), none, .mov (.tmp 0)⟩,
  ⟨(some 24), none, .bin .lss (.tmp 23) (.cst (LV.int .i64 0))⟩,
  ⟨(some 25), none, .mov (.tmp 24)⟩,
  ⟨(some 26), (some (25, false)), .mov (.tmp 0)⟩,
  ⟨(some 27), (some (25, false)), .mov (.tmp 1)⟩,
  ⟨(some 28), (some (25, false)), .bin .mul (.cst (LV.int .i64 8)) (.tmp 27)⟩,
  ⟨(some 29), (some (25, false)), .bin .shl (.cst (LV.int .i64 1)) (.tmp 28)⟩,
  ⟨(some 30), (some (25, false)), .bin .geq (.tmp 26) (.tmp 29)⟩,
  ⟨(some 31), none, .pick (.tmp 25) (.cst (LV.bool true)) (.tmp 30)⟩,
  ⟨(some 22), none, .mov (.tmp 31)⟩] []) (.cond (.tmp 22) (.seq (.reg [
  ⟨(some 32), none, .build (LV.agg [(LV.int .i64 0), (LV.int .i64 0)]) [(0, (.cst (LV.int .i64 13)))]⟩,
  ⟨(some 33), none, .box (.tmp 32)⟩,
  ⟨(some 34), none, .mkIface ty_ptr_num_Fault (.tmp 33)⟩,
  ⟨(some 4), none, .mov (.cst (LV.str []))⟩,
  ⟨(some 5), none, .mov (.tmp 34)⟩] []) .ret) .skip))))) (.seq (.reg [
  ⟨(some 35), none, .mov (.tmp 1)⟩,
  ⟨(some 36), none, .mkSl (.tmp 35) (.tmp 35)⟩,
  ⟨(some 6), none, .mov (.tmp 36)⟩] []) (.seq (.seq (.reg [
  ⟨(some 37), none, .mov (.tmp 1)⟩,
  ⟨(some 38), none, .mov (.cst (LV.int .i64 0))⟩] []) (.block 1 (.loop [38] [39, 40, 7, 41, 42, 43, 44, 45, 46, 47, 48, 49, 50, 51, 52] (.seq (.reg [
  ⟨(some 39), none, .bin .lss (.tmp 38) (.tmp 37)⟩] []) (.seq (.cond (.tmp 39) .skip (.exit 1)) (.seq (.block 2 (.seq (.reg [
  ⟨(some 40), none, .mov (.tmp 38)⟩,
  ⟨(some 7), none, .mov (.tmp 40)⟩] []) (.reg [
  ⟨(some 41), none, .mov (.tmp 6)⟩,
  ⟨(some 42), none, .mov (.tmp 7)⟩,
  ⟨(some 43), none, .mov (.tmp 0)⟩,
  ⟨(some 44), none, .mov (.tmp 1)⟩,
  ⟨(some 45), none, .bin .sub (.tmp 44) (.cst (LV.int .i64 1))⟩,
  ⟨(some 46), none, .mov (.tmp 7)⟩,
  ⟨(some 47), none, .bin .sub (.tmp 45) (.tmp 46)⟩,
  ⟨(some 48), none, .bin .mul (.cst (LV.int .i64 8)) (.tmp 47)⟩,
  ⟨(some 49), none, .bin .shr (.tmp 43) (.tmp 48)⟩,
  ⟨(some 50), none, .conv .u8 (.tmp 49)⟩,
  ⟨(some 51), none, .idxAddr none 1 (.tmp 41) (.tmp 42)⟩,
  ⟨none, none, .store 1 false (.tmp 51) (.tmp 50)⟩] []))) (.reg [
  ⟨(some 52), none, .bin .add (.tmp 38) (.cst (LV.int .i64 1))⟩,
  ⟨(some 38), none, .mov (.tmp 52)⟩] []))))))) (.seq (.reg [
  ⟨(some 53), none, .mov (.tmp 6)⟩,
  ⟨(some 54), none, .b2s (.tmp 53)⟩,
  ⟨(some 4), none, .mov (.tmp 54)⟩,
  ⟨(some 5), none, .mov (.cst LV.nili)⟩] []) .ret))))), [.tmp 4, .tmp 5]⟩
/-- interpreter/sum.fold -/
def c_sum_fold : MFn := ⟨1, 11, (.seq (.reg [
  ⟨(some 2), none, .mov (.cst (LV.int .i64 0))⟩] []) (.seq (.block 0 (.loop [0] [3, 4, 5, 6, 7, 8, 9] (.seq (.seq (.reg [
  ⟨(some 3), none, .mov (.tmp 0)⟩,
  ⟨(some 4), none, .bin .gtr (.tmp 3) (.cst (LV.int .i64 65535))⟩] []) (.cond (.tmp 4) .skip (.exit 0))) (.block 1 (.reg [
  ⟨(some 5), none, .mov (.tmp 0)⟩,
  ⟨(some 6), none, .bin .shr (.tmp 5) (.cst (LV.int .u64 16))⟩,
  ⟨(some 7), none, .mov (.tmp 0)⟩,
  ⟨(some 8), none, .bin .and (.tmp 7) (.cst (LV.int .i64 65535))⟩,
  ⟨(some 9), none, .bin .add (.tmp 6) (.tmp 8)⟩,
  ⟨(some 0), none, .mov (.tmp 9)⟩] []))))) (.seq (.reg [
  ⟨(some 10), none, .mov (.tmp 0)⟩,
  ⟨(some 2), none, .mov (.tmp 10)⟩] []) .ret))), [.tmp 2]⟩
/-- interpreter/sum.add -/
def c_sum_add : MFn := ⟨4, 34, (.seq (.reg [
  ⟨(some 8), none, .mov (.cst (LV.int .i64 0))⟩] []) (.seq (.seq (.reg [
  ⟨(some 11), none, .mov (.tmp 2)⟩,
  ⟨(some 12), none, .len true (.tmp 11)⟩,
  ⟨(some 13), none, .mov (.cst (LV.int .i64 0))⟩] []) (.block 0 (.loop [0, 13] [14, 15, 9, 16, 17, 18, 19, 20, 21, 10, 22, 23, 24, 25, 26, 27, 28, 29, 30, 31, 32] (.seq (.reg [
  ⟨(some 14), none, .bin .lss (.tmp 13) (.tmp 12)⟩] []) (.seq (.cond (.tmp 14) .skip (.exit 0)) (.seq (.block 1 (.seq (.reg [
  ⟨(some 15), none, .mov (.tmp 13)⟩,
  ⟨(some 9), none, .mov (.tmp 15)⟩] []) (.seq (.reg [
  ⟨(some 16), none, .mov (.tmp 2)⟩,
  ⟨(some 17), none, .mov (.tmp 9)⟩,
  ⟨(some 18), none, .idxStr (.tmp 16) (.tmp 17)⟩,
  ⟨(some 19), none, .mov (.tmp 3)⟩,
  ⟨(some 20), none, .bin .xor (.tmp 18) (.tmp 19)⟩,
  ⟨(some 21), none, .conv .i64 (.tmp 20)⟩,
  ⟨(some 10), none, .mov (.tmp 21)⟩] []) (.seq (.seq (.reg [
  ⟨(some 22), none, .mov (.tmp 1)⟩,
  ⟨(some 23), none, .mov (.tmp 9)⟩,
  ⟨(some 24), none, .bin .add (.tmp 22) (.tmp 23)⟩,
  ⟨(some 25), none, .bin .rem (.tmp 24) (.cst (LV.int .i64 2))⟩,
  ⟨(some 26), none, .bin .eql (.tmp 25) (.cst (LV.int .i64 0))⟩] []) (.cond (.tmp 26) (.reg [
  ⟨(some 27), none, .mov (.tmp 10)⟩,
  ⟨(some 28), none, .bin .shl (.tmp 27) (.cst (LV.int .u64 8))⟩,
  ⟨(some 10), none, .mov (.tmp 28)⟩] []) .skip)) (.reg [
  ⟨(some 29), none, .mov (.tmp 0)⟩,
  ⟨(some 30), none, .mov (.tmp 10)⟩,
  ⟨(some 31), none, .bin .add (.tmp 29) (.tmp 30)⟩,
  ⟨(some 0), none, .mov (.tmp 31)⟩] []))))) (.reg [
  ⟨(some 32), none, .bin .add (.tmp 13) (.cst (LV.int .i64 1))⟩,
  ⟨(some 13), none, .mov (.tmp 32)⟩] []))))))) (.seq (.reg [
  ⟨(some 33), none, .mov (.tmp 0)⟩,
  ⟨(some 8), none, .mov (.tmp 33)⟩] []) .ret))), [.tmp 8]⟩
/-- interpreter/interpreterref03.within -/
def c_interpreterref03_within : MFn := ⟨2, 12, (.seq (.reg [
  ⟨(some 4), none, .mov (.cst (LV.bool false))⟩] []) (.seq (.reg [
  ⟨(some 5), none, .mov (.tmp 0)⟩,
  ⟨(some 6), none, .bin .geq (.tmp 5) (.cst (LV.int .i64 0))⟩,
  ⟨(some 7), none, .mov (.tmp 6)⟩,
  ⟨(some 8), (some (7, true)), .mov (.tmp 0)⟩,
  ⟨(some 9), (some (7, true)), .mov (.tmp 1)⟩,
  ⟨(some 10), (some (7, true)), .bin .leq (.tmp 8) (.tmp 9)⟩,
  ⟨(some 11), none, .pick (.tmp 7) (.tmp 10) (.cst (LV.bool false))⟩,
  ⟨(some 4), none, .mov (.tmp 11)⟩] []) .ret)), [.tmp 4]⟩
/-- (*interpreter/interpreterref01.Reader).Number -/
def c_interpreterref01_Reader_Number : MFn := ⟨2, 31, (.seq (.reg [
  ⟨(some 4), none, .mov (.cst (LV.int .i64 0))⟩,
  ⟨(some 5), none, .mov (.cst (LV.int .i64 0))⟩] []) (.seq (.reg [
  ⟨(some 11), none, .mov (.tmp 0)⟩,
  ⟨(some 12), none, .mov (.tmp 1)⟩,
  ⟨(some 13), none, .callRw id_interpreterref01_Reader_Text [(.tmp 11), (.tmp 12)]⟩,
  ⟨(some 10), none, .mov (.tmp 13)⟩,
  ⟨(some 14), none, .extract (.tmp 10) 0⟩,
  ⟨(some 15), none, .extract (.tmp 10) 1⟩,
  ⟨(some 6), none, .mov (.tmp 14)⟩,
  ⟨(some 7), none, .mov (.tmp 15)⟩] []) (.seq (.reg [
  ⟨(some 8), none, .mov (.cst (LV.int .i64 0))⟩] []) (.seq (.seq (.reg [
  ⟨(some 9), none, .mov (.cst (LV.int .i64 0))⟩] []) (.block 0 (.loop [8, 9] [16, 17, 18, 19, 22, 23, 24, 25, 26, 27, 28, 20, 21] (.seq (.seq (.reg [
  ⟨(some 16), none, .mov (.tmp 9)⟩,
  ⟨(some 17), none, .mov (.tmp 6)⟩,
  ⟨(some 18), none, .len true (.tmp 17)⟩,
  ⟨(some 19), none, .bin .lss (.tmp 16) (.tmp 18)⟩] []) (.cond (.tmp 19) .skip (.exit 0))) (.seq (.block 1 (.reg [
  ⟨(some 22), none, .mov (.tmp 8)⟩,
  ⟨(some 23), none, .bin .mul (.tmp 22) (.cst (LV.int .i64 256))⟩,
  ⟨(some 24), none, .mov (.tmp 6)⟩,
  ⟨(some 25), none, .mov (.tmp 9)⟩,
  ⟨(some 26), none, .idxStr (.tmp 24) (.tmp 25)⟩,
  ⟨(some 27), none, .conv .i64 (.tmp 26)⟩,
  ⟨(some 28), none, .bin .add (.tmp 23) (.tmp 27)⟩,
  ⟨(some 8), none, .mov (.tmp 28)⟩] [])) (.reg [
  ⟨(some 20), none, .mov (.tmp 9)⟩,
  ⟨(some 21), none, .bin .add (.tmp 20) (.cst (LV.int .i64 1))⟩,
  ⟨(some 9), none, .mov (.tmp 21)⟩] [])))))) (.seq (.reg [
  ⟨(some 29), none, .mov (.tmp 8)⟩,
  ⟨(some 30), none, .mov (.tmp 7)⟩,
  ⟨(some 4), none, .mov (.tmp 29)⟩,
  ⟨(some 5), none, .mov (.tmp 30)⟩] []) .ret))))), [.tmp 4, .tmp 5]⟩
/-- (*interpreter/interpreterref01.Reader).Text -/
def c_interpreterref01_Reader_Text : MFn := ⟨2, 92, (.seq (.reg [
  ⟨(some 4), none, .mov (.cst (LV.str []))⟩,
  ⟨(some 5), none, .mov (.cst (LV.int .i64 0))⟩] []) (.seq (.seq (.reg [
  ⟨(some 8), none, .mov (.tmp 0)⟩,
  ⟨(some 9), none, .nilCheck (.tmp 8)⟩,
  ⟨(some 10), none, .fieldAddr 2 2 (.tmp 9)⟩,
  ⟨(some 11), none, .load 1 false (.tmp 10)⟩,
  ⟨(some 12), none, .bin .neq (.tmp 11) (.cst (LV.int .i64 0))⟩] []) (.cond (.tmp 12) (.seq (.reg [
  ⟨(some 13), none, .mov (.tmp 0)⟩,
  ⟨(some 14), none, .nilCheck (.tmp 13)⟩,
  ⟨(some 15), none, .fieldAddr 2 2 (.tmp 14)⟩,
  ⟨(some 16), none, .load 1 false (.tmp 15)⟩,
  ⟨(some 4), none, .mov (.cst (LV.str []))⟩,
  ⟨(some 5), none, .mov (.tmp 16)⟩] []) .ret) .skip)) (.seq (.seq (.reg [
  ⟨(some 17), none, .mov (.tmp 1)⟩,
  ⟨(some 18), none, .bin .lss (.tmp 17) (.cst (LV.int .i64 0))⟩] []) (.cond (.tmp 18) (.reg [
  ⟨(some 19), none, .mov (.tmp 0)⟩,
  ⟨(some 20), none, .nilCheck (.tmp 19)⟩,
  ⟨(some 21), none, .fieldAddr 2 2 (.tmp 20)⟩,
  ⟨none, none, .store 1 false (.tmp 21) (.cst (LV.int .i64 1))⟩] []) (.seq (.reg [
  ⟨(some 22), none, .mov (.tmp 1)⟩,
  ⟨(some 23), none, .mov (.tmp 0)⟩,
  ⟨(some 24), none, .nilCheck (.tmp 23)⟩,
  ⟨(some 25), none, .fieldAddr 0 0 (.tmp 24)⟩,
  ⟨(some 26), none, .load 1 false (.tmp 25)⟩,
  ⟨(some 27), none, .len true (.tmp 26)⟩,
  ⟨(some 28), none, .bin .gtr (.tmp 22) (.tmp 27)⟩,
  ⟨(some 29), none, .mov (.tmp 28)⟩,
  ⟨(some 30), (some (29, false)), .mov (.tmp 0)⟩,
  ⟨(some 31), (some (29, false)), .nilCheck (.tmp 30)⟩,
  ⟨(some 32), (some (29, false)), .fieldAddr 1 1 (.tmp 31)⟩,
  ⟨(some 33), (some (29, false)), .load 1 false (.tmp 32)⟩,
  ⟨(some 34), (some (29, false)), .mov (.tmp 0)⟩,
  ⟨(some 35), (some (29, false)), .nilCheck (.tmp 34)⟩,
  ⟨(some 36), (some (29, false)), .fieldAddr 0 0 (.tmp 35)⟩,
  ⟨(some 37), (some (29, false)), .load 1 false (.tmp 36)⟩,
  ⟨(some 38), (some (29, false)), .len true (.tmp 37)⟩,
  ⟨(some 39), (some (29, false)), .mov (.tmp 1)⟩,
  ⟨(some 40), (some (29, false)), .bin .sub (.tmp 38) (.tmp 39)⟩,
  ⟨(some 41), (some (29, false)), .bin .gtr (.tmp 33) (.tmp 40)⟩,
  ⟨(some 42), none, .pick (.tmp 29) (.cst (LV.bool true)) (.tmp 41)⟩] []) (.cond (.tmp 42) (.reg [
  ⟨(some 43), none, .mov (.tmp 0)⟩,
  ⟨(some 44), none, .nilCheck (.tmp 43)⟩,
  ⟨(some 45), none, .fieldAddr 2 2 (.tmp 44)⟩,
  ⟨none, none, .store 1 false (.tmp 45) (.cst (LV.int .i64 7))⟩] []) .skip)))) (.seq (.seq (.reg [
  ⟨(some 46), none, .mov (.tmp 0)⟩,
  ⟨(some 47), none, .nilCheck (.tmp 46)⟩,
  ⟨(some 48), none, .fieldAddr 2 2 (.tmp 47)⟩,
  ⟨(some 49), none, .load 1 false (.tmp 48)⟩,
  ⟨(some 50), none, .bin .neq (.tmp 49) (.cst (LV.int .i64 0))⟩] []) (.cond (.tmp 50) (.seq (.reg [
  ⟨(some 51), none, .mov (.tmp 0)⟩,
  ⟨(some 52), none, .mov (.tmp 0)⟩,
  ⟨(some 53), none, .nilCheck (.tmp 52)⟩,
  ⟨(some 54), none, .fieldAddr 1 1 (.tmp 53)⟩,
  ⟨(some 55), none, .load 1 false (.tmp 54)⟩,
  ⟨(some 56), none, .nilCheck (.tmp 51)⟩,
  ⟨(some 57), none, .fieldAddr 3 3 (.tmp 56)⟩,
  ⟨none, none, .store 1 false (.tmp 57) (.tmp 55)⟩] []) (.seq (.reg [
  ⟨(some 58), none, .mov (.tmp 0)⟩,
  ⟨(some 59), none, .nilCheck (.tmp 58)⟩,
  ⟨(some 60), none, .fieldAddr 2 2 (.tmp 59)⟩,
  ⟨(some 61), none, .load 1 false (.tmp 60)⟩,
  ⟨(some 4), none, .mov (.cst (LV.str []))⟩,
  ⟨(some 5), none, .mov (.tmp 61)⟩] []) .ret)) .skip)) (.seq (.reg [
  ⟨(some 6), none, .mov (.cst (LV.str []))⟩] []) (.seq (.seq (.reg [
  ⟨(some 7), none, .mov (.cst (LV.int .i64 0))⟩] []) (.block 0 (.loop [6, 7] [62, 63, 64, 67, 68, 69, 70, 71, 72, 73, 74, 75, 76, 77, 78, 79, 80, 81, 82, 83, 84, 85, 86, 87, 88, 89, 90, 65, 66] (.seq (.seq (.reg [
  ⟨(some 62), none, .mov (.tmp 7)⟩,
  ⟨(some 63), none, .mov (.tmp 1)⟩,
  ⟨(some 64), none, .bin .lss (.tmp 62) (.tmp 63)⟩] []) (.cond (.tmp 64) .skip (.exit 0))) (.seq (.block 1 (.seq (.reg [
  ⟨(some 67), none, .mov (.tmp 6)⟩,
  ⟨(some 68), none, .mov (.tmp 0)⟩,
  ⟨(some 69), none, .nilCheck (.tmp 68)⟩,
  ⟨(some 70), none, .fieldAddr 0 0 (.tmp 69)⟩,
  ⟨(some 71), none, .load 1 false (.tmp 70)⟩,
  ⟨(some 72), none, .mov (.tmp 0)⟩,
  ⟨(some 73), none, .nilCheck (.tmp 72)⟩,
  ⟨(some 74), none, .fieldAddr 1 1 (.tmp 73)⟩,
  ⟨(some 75), none, .load 1 false (.tmp 74)⟩,
  ⟨(some 76), none, .mov (.tmp 0)⟩,
  ⟨(some 77), none, .nilCheck (.tmp 76)⟩,
  ⟨(some 78), none, .fieldAddr 1 1 (.tmp 77)⟩,
  ⟨(some 79), none, .load 1 false (.tmp 78)⟩,
  ⟨(some 80), none, .bin .add (.tmp 79) (.cst (LV.int .i64 1))⟩,
  ⟨(some 81), none, .slc 0 (.tmp 71) (some (.tmp 75)) (some (.tmp 80))⟩,
  ⟨(some 82), none, .bin .add (.tmp 67) (.tmp 81)⟩,
  ⟨(some 6), none, .mov (.tmp 82)⟩] []) (.reg [
  ⟨(some 83), none, .mov (.tmp 0)⟩,
  ⟨(some 84), none, .mov (.tmp 0)⟩,
  ⟨(some 85), none, .nilCheck (.tmp 84)⟩,
  ⟨(some 86), none, .fieldAddr 1 1 (.tmp 85)⟩,
  ⟨(some 87), none, .load 1 false (.tmp 86)⟩,
  ⟨(some 88), none, .bin .add (.tmp 87) (.cst (LV.int .i64 1))⟩,
  ⟨(some 89), none, .nilCheck (.tmp 83)⟩,
  ⟨(some 90), none, .fieldAddr 1 1 (.tmp 89)⟩,
  ⟨none, none, .store 1 false (.tmp 90) (.tmp 88)⟩] []))) (.reg [
  ⟨(some 65), none, .mov (.tmp 7)⟩,
  ⟨(some 66), none, .bin .add (.tmp 65) (.cst (LV.int .i64 1))⟩,
  ⟨(some 7), none, .mov (.tmp 66)⟩] [])))))) (.seq (.reg [
  ⟨(some 91), none, .mov (.tmp 6)⟩,
  ⟨(some 4), none, .mov (.tmp 91)⟩,
  ⟨(some 5), none, .mov (.cst (LV.int .i64 0))⟩] []) .ret))))))), [.tmp 4, .tmp 5]⟩

end Go.Ev
