/- Part 3 of a proof: what the functions yield. It stands by itself; no condition. -/
import Derived.Test.YtppeglipnioedaaE0
/- The small code of the functions. -/
namespace Go.Ev
set_option linter.unusedVariables false
set_option maxRecDepth 100000
def id_main_main : Nat := 0
def id_gosem_cut : Nat := 1
def id_gosem_cut_init : Nat := 2
def id_interpreterlaw05_UdpWrites : Nat := 3
def id_interpreterlaw05_UdpReads : Nat := 4
def id_interpreterlaw05_UdpBack : Nat := 5
def id_interpreterlaw05_UdpMoves : Nat := 6
def id_interpreterlaw06_TcpKnown : Nat := 7
def id_interpreterlaw06_TcpWrites : Nat := 8
def id_interpreterlaw06_TcpReads : Nat := 9
def id_interpreterlaw06_TcpBack : Nat := 10
def id_interpreterlaw06_TcpAgain : Nat := 11
def id_interpreterlaw06_TcpMoves : Nat := 12
def id_interpreterlaw05_UdpKnown : Nat := 13
def id_interpreterlaw05_awake : Nat := 14
def id_udp_Bytes : Nat := 15
def id_interpreterref05_Bytes : Nat := 16
def id_interpreterlaw05_same : Nat := 17
def id_udp_Parse : Nat := 18
def id_interpreterref05_Parse : Nat := 19
def id_udp_Check : Nat := 20
def id_interpreterref05_Check : Nat := 21
def id_sum_Right : Nat := 22
def id_tcp_Parse : Nat := 23
def id_interpreterlaw06_raw : Nat := 24
def id_strings_Repeat : Nat := 25
def id_tcp_Bytes : Nat := 26
def id_interpreterlaw06_awake : Nat := 27
def id_interpreterlaw06_same : Nat := 28
def id_interpreterref06_Bytes : Nat := 29
def id_interpreterref06_Parse : Nat := 30
def id_tcp_Check : Nat := 31
def id_interpreterref06_Check : Nat := 32
def id_sum_Update : Nat := 33
def id_num_Big : Nat := 34
def id_udp_fault : Nat := 35
def id_sum_Of : Nat := 36
def id_interpreterref05_two : Nat := 37
def id_interpreterref02_Of : Nat := 38
def id_udp_two : Nat := 39
def id_interpreterref02_Words : Nat := 40
def id_tcp_fault : Nat := 41
def id_tcp_two : Nat := 42
def id_math_bits_Mul : Nat := 43
def id_strings_HasPrefix : Nat := 44
def id_strings_Builder_Grow : Nat := 45
def id_strings_Builder_WriteString : Nat := 46
def id_strings_Builder_Len : Nat := 47
def id_strings_Builder_String : Nat := 48
def id_sum_fold : Nat := 49
def id_sum_add : Nat := 50
def id_sum_even : Nat := 51
def id_interpreterref02_Total : Nat := 52
def id_math_bits_Mul32 : Nat := 53
def id_math_bits_Mul64 : Nat := 54
def id_internal_stringslite_HasPrefix : Nat := 55
def id_strings_Builder_copyCheck : Nat := 56
def id_strings_Builder_grow : Nat := 57
def id_internal_abi_NoEscape : Nat := 58
def id_internal_bytealg_MakeNoZero : Nat := 59
def id_runtime_boundsError_Error : Nat := 60
def id_runtime_boundsError_RuntimeError : Nat := 61
def id_runtime_errorString_Error : Nat := 62
def id_runtime_errorString_RuntimeError : Nat := 63
def id_runtime_plainError_Error : Nat := 64
def id_runtime_plainError_RuntimeError : Nat := 65
def id_runtime_errorAddressString_Error : Nat := 66
def id_runtime_errorAddressString_RuntimeError : Nat := 67
def id_runtime_TypeAssertionError_Error : Nat := 68
def id_runtime_TypeAssertionError_RuntimeError : Nat := 69
def id_runtime_PanicNilError_Error : Nat := 70
def id_runtime_PanicNilError_RuntimeError : Nat := 71
def id_internal_abi_Type_Align : Nat := 72
def id_internal_runtime_maps_unhashableTypeError_Error : Nat := 73
def id_internal_runtime_maps_unhashableTypeError_RuntimeError : Nat := 74
def id_num_Fault_Error : Nat := 75
def id_strings_Builder_Reset : Nat := 76
def id_internal_abi_Kind_String : Nat := 77

def ty_ : Nat := 0
def ty_func : Nat := 1
def ty_int64 : Nat := 2
def ty_int : Nat := 3
def ty_bool : Nat := 4
def ty_uint8 : Nat := 5
def ty_abi_BoundsErrorCode : Nat := 6
def ty_struct_x_int64_y_int_signed_bool_code_abi_BoundsErrorCode : Nat := 7
def ty_runtime_boundsError : Nat := 8
def ty_string : Nat := 9
def ty_runtime_errorString : Nat := 10
def ty_runtime_plainError : Nat := 11
def ty_uintptr : Nat := 12
def ty_struct_msg_string_addr_uintptr : Nat := 13
def ty_runtime_errorAddressString : Nat := 14
def ty_ptr_runtime_TypeAssertionError : Nat := 15
def ty_ptr_runtime_PanicNilError : Nat := 16
def ty_ptr_abi_Type : Nat := 17
def ty_struct_typ_ptr_abi_Type : Nat := 18
def ty_maps_unhashableTypeError : Nat := 19
def ty_interface : Nat := 20
def ty_int32 : Nat := 21
def ty_struct_From_int_To_int_Sum_int_Data_string : Nat := 22
def ty_api_Dgram : Nat := 23
def ty_func_bool : Nat := 24
def ty_interface_Error_string : Nat := 25
def ty_error : Nat := 26
def ty_string_error : Nat := 27
def ty_func_api_Dgram_string_string_error : Nat := 28
def ty_string_int : Nat := 29
def ty_func_api_Dgram_string_string_int : Nat := 30
def ty_func_error_int_bool : Nat := 31
def ty_func_api_Dgram_string_bool : Nat := 32
def ty_api_Dgram_error : Nat := 33
def ty_func_string_api_Dgram_error : Nat := 34
def ty_api_Dgram_int : Nat := 35
def ty_func_string_api_Dgram_int : Nat := 36
def ty_func_string_string_error : Nat := 37
def ty_func_string_string_int : Nat := 38
def ty_func_string_string_bool : Nat := 39
def ty_uint16 : Nat := 40
def ty_slice_uint8 : Nat := 41
def ty_func_api_Dgram_string_uint16_uint8_bool : Nat := 42
def ty_func_string_bool : Nat := 43
def ty_func_api_Dgram_string_string_uint16_uint16_bool : Nat := 44
def ty_struct_From_int_To_int_Flags_int_Raw_string : Nat := 45
def ty_api_Seg : Nat := 46
def ty_api_Seg_error : Nat := 47
def ty_func_string_api_Seg_error : Nat := 48
def ty_func_string : Nat := 49
def ty_func_string_int_string : Nat := 50
def ty_func_api_Seg_string_string_error : Nat := 51
def ty_func_api_Seg_string_string_int : Nat := 52
def ty_func_api_Seg_string_bool : Nat := 53
def ty_api_Seg_int : Nat := 54
def ty_func_string_api_Seg_int : Nat := 55
def ty_func_api_Seg_string_uint16_uint8_bool : Nat := 56
def ty_func_string_string_uint16_uint16_bool : Nat := 57
def ty_func_int_string_string_int : Nat := 58
def ty_func_api_Seg_string_string_bool : Nat := 59
def ty_func_int_int_string_error : Nat := 60
def ty_func_api_Errno_error : Nat := 61
def ty_api_Errno : Nat := 62
def ty_func_string_int : Nat := 63
def ty_func_int_string : Nat := 64
def ty_ptr_num_Fault : Nat := 66
def ty_ptr_num_Fault_bool : Nat := 67
def ty_struct_Code_api_Errno_At_int : Nat := 68
def ty_num_Fault : Nat := 69
def ty_func_string_int_int : Nat := 70
def ty_slice_int : Nat := 71
def ty_func_string_slice_int : Nat := 72
def ty_slice_string : Nat := 73
def ty_uint : Nat := 74
def ty_uint_uint : Nat := 75
def ty_func_uint_uint_uint_uint : Nat := 76
def ty_ptr_strings_Builder : Nat := 77
def ty_struct_addr_ptr_strings_Builder_buf_slice_uint8 : Nat := 78
def ty_strings_Builder : Nat := 79
def ty_func_int : Nat := 80
def ty_int_error : Nat := 81
def ty_func_string_int_error : Nat := 82
def ty_func_int_int : Nat := 84
def ty_func_int_int_string_uint8_int : Nat := 85
def ty_func_string_string : Nat := 86
def ty_func_slice_int_int : Nat := 87
def ty_uint32 : Nat := 88
def ty_uint32_uint32 : Nat := 89
def ty_func_uint32_uint32_uint32_uint32 : Nat := 90
def ty_uint64 : Nat := 91
def ty_uint64_uint64 : Nat := 92
def ty_func_uint64_uint64_uint64_uint64 : Nat := 93
def ty_ptr_uint8 : Nat := 94
def ty_unsafe_Pointer : Nat := 95
def ty_func_unsafe_Pointer_unsafe_Pointer : Nat := 96
def ty_func_int_slice_uint8 : Nat := 97
def ty_struct_interface_ptr_abi_Type_concrete_ptr_abi_Type_asserted_ptr_abi_Type_missingMethod_string : Nat := 98
def ty_runtime_TypeAssertionError : Nat := 99
def ty_0_ptr_runtime_PanicNilError : Nat := 100
def ty_struct_0_ptr_runtime_PanicNilError : Nat := 101
def ty_runtime_PanicNilError : Nat := 102
def ty_abi_TFlag : Nat := 103
def ty_abi_Kind : Nat := 104
def ty_func_unsafe_Pointer_unsafe_Pointer_bool : Nat := 105
def ty_abi_NameOff : Nat := 106
def ty_abi_TypeOff : Nat := 107
def ty_struct_Size_uintptr_PtrBytes_uintptr_Hash_uint32_TFlag_abi_TFlag_Align_uint8_FieldAlign_uint8_Kind_abi_Kind_Equal_func_unsafe_Pointer_unsafe_Pointer_bool_GCData_ptr_uint8_Str_abi_NameOff_PtrToThis_abi_TypeOff : Nat := 108
def ty_abi_Type : Nat := 109

/-- interpreter/interpreterlaw05.UdpWrites -/
def c_interpreterlaw05_UdpWrites : MFn := ⟨2, 40, (.seq (.reg [
  ⟨(some 2), none, .box (.tmp 0)⟩,
  ⟨(some 4), none, .mov (.cst (LV.bool false))⟩] []) (.seq (.seq (.reg [
  ⟨(some 9), none, .call id_interpreterlaw05_awake []⟩,
  ⟨(some 10), none, .un .not (.tmp 9)⟩] []) (.cond (.tmp 10) (.seq (.reg [
  ⟨(some 4), none, .mov (.cst (LV.bool false))⟩] []) .ret) .skip)) (.seq (.seq (.reg [
  ⟨(some 11), none, .fieldAddr 3 3 (.tmp 2)⟩,
  ⟨(some 12), none, .load 1 false (.tmp 11)⟩,
  ⟨(some 13), none, .len true (.tmp 12)⟩,
  ⟨(some 14), none, .bin .gtr (.tmp 13) (.cst (LV.int .i64 70000))⟩,
  ⟨(some 15), none, .mov (.tmp 14)⟩,
  ⟨(some 16), (some (15, false)), .mov (.tmp 1)⟩,
  ⟨(some 17), (some (15, false)), .len true (.tmp 16)⟩,
  ⟨(some 18), (some (15, false)), .bin .gtr (.tmp 17) (.cst (LV.int .i64 1000))⟩,
  ⟨(some 19), none, .pick (.tmp 15) (.cst (LV.bool true)) (.tmp 18)⟩] []) (.cond (.tmp 19) (.seq (.reg [
  ⟨(some 4), none, .mov (.cst (LV.bool true))⟩] []) .ret) .skip)) (.seq (.reg [
  ⟨(some 21), none, .load 4 true (.tmp 2)⟩,
  ⟨(some 22), none, .mov (.tmp 1)⟩,
  ⟨(some 23), none, .call id_udp_Bytes [(.tmp 21), (.tmp 22)]⟩,
  ⟨(some 20), none, .mov (.tmp 23)⟩,
  ⟨(some 24), none, .extract (.tmp 20) 0⟩,
  ⟨(some 25), none, .extract (.tmp 20) 1⟩,
  ⟨(some 5), none, .mov (.tmp 24)⟩,
  ⟨(some 6), none, .mov (.tmp 25)⟩] []) (.seq (.reg [
  ⟨(some 27), none, .load 4 true (.tmp 2)⟩,
  ⟨(some 28), none, .mov (.tmp 1)⟩,
  ⟨(some 29), none, .call id_interpreterref05_Bytes [(.tmp 27), (.tmp 28)]⟩,
  ⟨(some 26), none, .mov (.tmp 29)⟩,
  ⟨(some 30), none, .extract (.tmp 26) 0⟩,
  ⟨(some 31), none, .extract (.tmp 26) 1⟩,
  ⟨(some 7), none, .mov (.tmp 30)⟩,
  ⟨(some 8), none, .mov (.tmp 31)⟩] []) (.seq (.reg [
  ⟨(some 32), none, .mov (.tmp 5)⟩,
  ⟨(some 33), none, .mov (.tmp 7)⟩,
  ⟨(some 34), none, .bin .eql (.tmp 32) (.tmp 33)⟩,
  ⟨(some 35), none, .mov (.tmp 34)⟩,
  ⟨(some 36), (some (35, true)), .mov (.tmp 6)⟩,
  ⟨(some 37), (some (35, true)), .mov (.tmp 8)⟩,
  ⟨(some 38), (some (35, true)), .call id_interpreterlaw05_same [(.tmp 36), (.tmp 37)]⟩,
  ⟨(some 39), none, .pick (.tmp 35) (.tmp 38) (.cst (LV.bool false))⟩,
  ⟨(some 4), none, .mov (.tmp 39)⟩] []) .ret)))))), [.tmp 4]⟩
/-- interpreter/interpreterlaw05.UdpReads -/
def c_interpreterlaw05_UdpReads : MFn := ⟨2, 46, (.seq (.reg [
  ⟨(some 4), none, .mov (.cst (LV.bool false))⟩] []) (.seq (.seq (.reg [
  ⟨(some 9), none, .call id_interpreterlaw05_awake []⟩,
  ⟨(some 10), none, .un .not (.tmp 9)⟩] []) (.cond (.tmp 10) (.seq (.reg [
  ⟨(some 4), none, .mov (.cst (LV.bool false))⟩] []) .ret) .skip)) (.seq (.seq (.reg [
  ⟨(some 11), none, .mov (.tmp 0)⟩,
  ⟨(some 12), none, .len true (.tmp 11)⟩,
  ⟨(some 13), none, .bin .gtr (.tmp 12) (.cst (LV.int .i64 70000))⟩,
  ⟨(some 14), none, .mov (.tmp 13)⟩,
  ⟨(some 15), (some (14, false)), .mov (.tmp 1)⟩,
  ⟨(some 16), (some (14, false)), .len true (.tmp 15)⟩,
  ⟨(some 17), (some (14, false)), .bin .gtr (.tmp 16) (.cst (LV.int .i64 1000))⟩,
  ⟨(some 18), none, .pick (.tmp 14) (.cst (LV.bool true)) (.tmp 17)⟩] []) (.cond (.tmp 18) (.seq (.reg [
  ⟨(some 4), none, .mov (.cst (LV.bool true))⟩] []) .ret) .skip)) (.seq (.reg [
  ⟨(some 20), none, .mov (.tmp 0)⟩,
  ⟨(some 21), none, .call id_udp_Parse [(.tmp 20)]⟩,
  ⟨(some 19), none, .mov (.tmp 21)⟩,
  ⟨(some 22), none, .extract (.tmp 19) 0⟩,
  ⟨(some 23), none, .extract (.tmp 19) 1⟩,
  ⟨(some 5), none, .alloc (LV.agg [(LV.int .i64 0), (LV.int .i64 0), (LV.int .i64 0), (LV.str [])])⟩,
  ⟨none, none, .store 4 true (.tmp 5) (.tmp 22)⟩,
  ⟨(some 6), none, .mov (.tmp 23)⟩] []) (.seq (.reg [
  ⟨(some 25), none, .mov (.tmp 0)⟩,
  ⟨(some 26), none, .call id_interpreterref05_Parse [(.tmp 25)]⟩,
  ⟨(some 24), none, .mov (.tmp 26)⟩,
  ⟨(some 27), none, .extract (.tmp 24) 0⟩,
  ⟨(some 28), none, .extract (.tmp 24) 1⟩,
  ⟨(some 7), none, .alloc (LV.agg [(LV.int .i64 0), (LV.int .i64 0), (LV.int .i64 0), (LV.str [])])⟩,
  ⟨none, none, .store 4 true (.tmp 7) (.tmp 27)⟩,
  ⟨(some 8), none, .mov (.tmp 28)⟩] []) (.seq (.reg [
  ⟨(some 29), none, .load 4 true (.tmp 5)⟩,
  ⟨(some 30), none, .load 4 true (.tmp 7)⟩,
  ⟨(some 31), none, .eqS (Sh.agg [(Sh.int .i64), (Sh.int .i64), (Sh.int .i64), Sh.str]) false (.tmp 29) (.tmp 30)⟩,
  ⟨(some 32), none, .mov (.tmp 31)⟩,
  ⟨(some 33), (some (32, true)), .mov (.tmp 6)⟩,
  ⟨(some 34), (some (32, true)), .mov (.tmp 8)⟩,
  ⟨(some 35), (some (32, true)), .call id_interpreterlaw05_same [(.tmp 33), (.tmp 34)]⟩,
  ⟨(some 36), none, .pick (.tmp 32) (.tmp 35) (.cst (LV.bool false))⟩,
  ⟨(some 37), none, .mov (.tmp 36)⟩,
  ⟨(some 38), (some (37, true)), .mov (.tmp 0)⟩,
  ⟨(some 39), (some (37, true)), .mov (.tmp 1)⟩,
  ⟨(some 40), (some (37, true)), .call id_udp_Check [(.tmp 38), (.tmp 39)]⟩,
  ⟨(some 41), (some (37, true)), .mov (.tmp 0)⟩,
  ⟨(some 42), (some (37, true)), .mov (.tmp 1)⟩,
  ⟨(some 43), (some (37, true)), .call id_interpreterref05_Check [(.tmp 41), (.tmp 42)]⟩,
  ⟨(some 44), (some (37, true)), .call id_interpreterlaw05_same [(.tmp 40), (.tmp 43)]⟩,
  ⟨(some 45), none, .pick (.tmp 37) (.tmp 44) (.cst (LV.bool false))⟩,
  ⟨(some 4), none, .mov (.tmp 45)⟩] []) .ret)))))), [.tmp 4]⟩
/-- interpreter/interpreterlaw05.UdpBack -/
def c_interpreterlaw05_UdpBack : MFn := ⟨4, 106, (.seq (.reg [
  ⟨(some 4), none, .box (.tmp 0)⟩,
  ⟨(some 8), none, .mov (.cst (LV.bool false))⟩] []) (.seq (.seq (.reg [
  ⟨(some 16), none, .call id_interpreterlaw05_awake []⟩,
  ⟨(some 17), none, .un .not (.tmp 16)⟩] []) (.cond (.tmp 17) (.seq (.reg [
  ⟨(some 8), none, .mov (.cst (LV.bool false))⟩] []) .ret) .skip)) (.seq (.seq (.reg [
  ⟨(some 18), none, .fieldAddr 3 3 (.tmp 4)⟩,
  ⟨(some 19), none, .load 1 false (.tmp 18)⟩,
  ⟨(some 20), none, .len true (.tmp 19)⟩,
  ⟨(some 21), none, .bin .gtr (.tmp 20) (.cst (LV.int .i64 70000))⟩,
  ⟨(some 22), none, .mov (.tmp 21)⟩,
  ⟨(some 23), (some (22, false)), .mov (.tmp 1)⟩,
  ⟨(some 24), (some (22, false)), .len true (.tmp 23)⟩,
  ⟨(some 25), (some (22, false)), .bin .gtr (.tmp 24) (.cst (LV.int .i64 1000))⟩,
  ⟨(some 26), none, .pick (.tmp 22) (.cst (LV.bool true)) (.tmp 25)⟩] []) (.cond (.tmp 26) (.seq (.reg [
  ⟨(some 8), none, .mov (.cst (LV.bool true))⟩] []) .ret) .skip)) (.seq (.reg [
  ⟨(some 27), none, .mov (.tmp 1)⟩,
  ⟨(some 28), none, .mov (.tmp 1)⟩,
  ⟨(some 29), none, .len true (.tmp 28)⟩,
  ⟨(some 30), none, .bin .quo (.tmp 29) (.cst (LV.int .i64 2))⟩,
  ⟨(some 31), none, .bin .mul (.tmp 30) (.cst (LV.int .i64 2))⟩,
  ⟨(some 32), none, .slc 0 (.tmp 27) none (some (.tmp 31))⟩,
  ⟨(some 1), none, .mov (.tmp 32)⟩] []) (.seq (.reg [
  ⟨(some 34), none, .load 4 true (.tmp 4)⟩,
  ⟨(some 35), none, .mov (.tmp 1)⟩,
  ⟨(some 36), none, .call id_udp_Bytes [(.tmp 34), (.tmp 35)]⟩,
  ⟨(some 33), none, .mov (.tmp 36)⟩,
  ⟨(some 37), none, .extract (.tmp 33) 0⟩,
  ⟨(some 38), none, .extract (.tmp 33) 1⟩,
  ⟨(some 9), none, .mov (.tmp 37)⟩,
  ⟨(some 10), none, .mov (.tmp 38)⟩] []) (.seq (.seq (.reg [
  ⟨(some 39), none, .mov (.tmp 10)⟩,
  ⟨(some 40), none, .eqNil 1 true (.tmp 39)⟩] []) (.cond (.tmp 40) (.seq (.reg [
  ⟨(some 41), none, .mov (.tmp 9)⟩,
  ⟨(some 42), none, .bin .eql (.tmp 41) (.cst (LV.str []))⟩,
  ⟨(some 8), none, .mov (.tmp 42)⟩] []) .ret) .skip)) (.seq (.reg [
  ⟨(some 44), none, .mov (.tmp 9)⟩,
  ⟨(some 45), none, .call id_udp_Parse [(.tmp 44)]⟩,
  ⟨(some 43), none, .mov (.tmp 45)⟩,
  ⟨(some 46), none, .extract (.tmp 43) 0⟩,
  ⟨(some 47), none, .extract (.tmp 43) 1⟩,
  ⟨(some 11), none, .alloc (LV.agg [(LV.int .i64 0), (LV.int .i64 0), (LV.int .i64 0), (LV.str [])])⟩,
  ⟨none, none, .store 4 true (.tmp 11) (.tmp 46)⟩,
  ⟨(some 12), none, .mov (.tmp 47)⟩] []) (.seq (.seq (.reg [
  ⟨(some 48), none, .mov (.tmp 12)⟩,
  ⟨(some 49), none, .eqNil 1 true (.tmp 48)⟩,
  ⟨(some 50), none, .mov (.tmp 49)⟩,
  ⟨(some 51), (some (50, false)), .fieldAddr 0 0 (.tmp 11)⟩,
  ⟨(some 52), (some (50, false)), .load 1 false (.tmp 51)⟩,
  ⟨(some 53), (some (50, false)), .fieldAddr 0 0 (.tmp 4)⟩,
  ⟨(some 54), (some (50, false)), .load 1 false (.tmp 53)⟩,
  ⟨(some 55), (some (50, false)), .bin .neq (.tmp 52) (.tmp 54)⟩,
  ⟨(some 56), none, .pick (.tmp 50) (.cst (LV.bool true)) (.tmp 55)⟩,
  ⟨(some 57), none, .mov (.tmp 56)⟩,
  ⟨(some 58), (some (57, false)), .fieldAddr 1 1 (.tmp 11)⟩,
  ⟨(some 59), (some (57, false)), .load 1 false (.tmp 58)⟩,
  ⟨(some 60), (some (57, false)), .fieldAddr 1 1 (.tmp 4)⟩,
  ⟨(some 61), (some (57, false)), .load 1 false (.tmp 60)⟩,
  ⟨(some 62), (some (57, false)), .bin .neq (.tmp 59) (.tmp 61)⟩,
  ⟨(some 63), none, .pick (.tmp 57) (.cst (LV.bool true)) (.tmp 62)⟩,
  ⟨(some 64), none, .mov (.tmp 63)⟩,
  ⟨(some 65), (some (64, false)), .fieldAddr 3 3 (.tmp 11)⟩,
  ⟨(some 66), (some (64, false)), .load 1 false (.tmp 65)⟩,
  ⟨(some 67), (some (64, false)), .fieldAddr 3 3 (.tmp 4)⟩,
  ⟨(some 68), (some (64, false)), .load 1 false (.tmp 67)⟩,
  ⟨(some 69), (some (64, false)), .bin .neq (.tmp 66) (.tmp 68)⟩,
  ⟨(some 70), none, .pick (.tmp 64) (.cst (LV.bool true)) (.tmp 69)⟩,
  ⟨(some 71), none, .mov (.tmp 70)⟩,
  ⟨(some 72), (some (71, false)), .fieldAddr 2 2 (.tmp 11)⟩,
  ⟨(some 73), (some (71, false)), .load 1 false (.tmp 72)⟩,
  ⟨(some 74), (some (71, false)), .bin .eql (.tmp 73) (.cst (LV.int .i64 0))⟩,
  ⟨(some 75), none, .pick (.tmp 71) (.cst (LV.bool true)) (.tmp 74)⟩,
  ⟨(some 76), none, .mov (.tmp 75)⟩,
  ⟨(some 77), (some (76, false)), .mov (.tmp 9)⟩,
  ⟨(some 78), (some (76, false)), .mov (.tmp 1)⟩,
  ⟨(some 79), (some (76, false)), .call id_udp_Check [(.tmp 77), (.tmp 78)]⟩,
  ⟨(some 80), (some (76, false)), .eqNil 1 true (.tmp 79)⟩,
  ⟨(some 81), none, .pick (.tmp 76) (.cst (LV.bool true)) (.tmp 80)⟩] []) (.cond (.tmp 81) (.seq (.reg [
  ⟨(some 8), none, .mov (.cst (LV.bool false))⟩] []) .ret) .skip)) (.seq (.reg [
  ⟨(some 82), none, .mov (.tmp 9)⟩,
  ⟨(some 83), none, .s2b (.tmp 82)⟩,
  ⟨(some 13), none, .mov (.tmp 83)⟩] []) (.seq (.reg [
  ⟨(some 84), none, .mov (.tmp 2)⟩,
  ⟨(some 85), none, .conv .i64 (.tmp 84)⟩,
  ⟨(some 86), none, .mov (.tmp 13)⟩,
  ⟨(some 87), none, .len false (.tmp 86)⟩,
  ⟨(some 88), none, .bin .rem (.tmp 85) (.tmp 87)⟩,
  ⟨(some 14), none, .mov (.tmp 88)⟩] []) (.seq (.reg [
  ⟨(some 89), none, .mov (.tmp 13)⟩,
  ⟨(some 90), none, .mov (.tmp 14)⟩,
  ⟨(some 91), none, .mov (.tmp 13)⟩,
  ⟨(some 92), none, .mov (.tmp 14)⟩,
  ⟨(some 93), none, .idxAddr none 1 (.tmp 91) (.tmp 92)⟩,
  ⟨(some 94), none, .load 1 false (.tmp 93)⟩,
  ⟨(some 95), none, .mov (.tmp 3)⟩,
  ⟨(some 96), none, .bin .rem (.tmp 95) (.cst (LV.int .u8 8))⟩,
  ⟨(some 97), none, .bin .shl (.cst (LV.int .u8 1)) (.tmp 96)⟩,
  ⟨(some 98), none, .bin .xor (.tmp 94) (.tmp 97)⟩,
  ⟨(some 99), none, .idxAddr none 1 (.tmp 89) (.tmp 90)⟩,
  ⟨none, none, .store 1 false (.tmp 99) (.tmp 98)⟩] []) (.seq (.reg [
  ⟨(some 100), none, .mov (.tmp 13)⟩,
  ⟨(some 101), none, .b2s (.tmp 100)⟩,
  ⟨(some 102), none, .mov (.tmp 1)⟩,
  ⟨(some 103), none, .call id_udp_Check [(.tmp 101), (.tmp 102)]⟩,
  ⟨(some 15), none, .mov (.tmp 103)⟩] []) (.seq (.reg [
  ⟨(some 104), none, .mov (.tmp 15)⟩,
  ⟨(some 105), none, .eqNil 1 true (.tmp 104)⟩,
  ⟨(some 8), none, .mov (.tmp 105)⟩] []) .ret))))))))))))), [.tmp 8]⟩
/-- interpreter/interpreterlaw05.UdpMoves -/
def c_interpreterlaw05_UdpMoves : MFn := ⟨5, 127, (.seq (.reg [
  ⟨(some 5), none, .box (.tmp 0)⟩,
  ⟨(some 10), none, .mov (.cst (LV.bool false))⟩] []) (.seq (.seq (.reg [
  ⟨(some 21), none, .call id_interpreterlaw05_awake []⟩,
  ⟨(some 22), none, .un .not (.tmp 21)⟩] []) (.cond (.tmp 22) (.seq (.reg [
  ⟨(some 10), none, .mov (.cst (LV.bool false))⟩] []) .ret) .skip)) (.seq (.seq (.reg [
  ⟨(some 23), none, .fieldAddr 3 3 (.tmp 5)⟩,
  ⟨(some 24), none, .load 1 false (.tmp 23)⟩,
  ⟨(some 25), none, .len true (.tmp 24)⟩,
  ⟨(some 26), none, .bin .gtr (.tmp 25) (.cst (LV.int .i64 3000))⟩,
  ⟨(some 27), none, .mov (.tmp 26)⟩,
  ⟨(some 28), (some (27, false)), .mov (.tmp 1)⟩,
  ⟨(some 29), (some (27, false)), .len true (.tmp 28)⟩,
  ⟨(some 30), (some (27, false)), .bin .gtr (.tmp 29) (.cst (LV.int .i64 100))⟩,
  ⟨(some 31), none, .pick (.tmp 27) (.cst (LV.bool true)) (.tmp 30)⟩,
  ⟨(some 32), none, .mov (.tmp 31)⟩,
  ⟨(some 33), (some (32, false)), .mov (.tmp 2)⟩,
  ⟨(some 34), (some (32, false)), .len true (.tmp 33)⟩,
  ⟨(some 35), (some (32, false)), .bin .gtr (.tmp 34) (.cst (LV.int .i64 100))⟩,
  ⟨(some 36), none, .pick (.tmp 32) (.cst (LV.bool true)) (.tmp 35)⟩] []) (.cond (.tmp 36) (.seq (.reg [
  ⟨(some 10), none, .mov (.cst (LV.bool true))⟩] []) .ret) .skip)) (.seq (.reg [
  ⟨(some 37), none, .mov (.tmp 1)⟩,
  ⟨(some 38), none, .mov (.tmp 1)⟩,
  ⟨(some 39), none, .len true (.tmp 38)⟩,
  ⟨(some 40), none, .bin .quo (.tmp 39) (.cst (LV.int .i64 2))⟩,
  ⟨(some 41), none, .bin .mul (.tmp 40) (.cst (LV.int .i64 2))⟩,
  ⟨(some 42), none, .slc 0 (.tmp 37) none (some (.tmp 41))⟩,
  ⟨(some 1), none, .mov (.tmp 42)⟩] []) (.seq (.reg [
  ⟨(some 43), none, .mov (.tmp 2)⟩,
  ⟨(some 44), none, .mov (.tmp 2)⟩,
  ⟨(some 45), none, .len true (.tmp 44)⟩,
  ⟨(some 46), none, .bin .quo (.tmp 45) (.cst (LV.int .i64 2))⟩,
  ⟨(some 47), none, .bin .mul (.tmp 46) (.cst (LV.int .i64 2))⟩,
  ⟨(some 48), none, .slc 0 (.tmp 43) none (some (.tmp 47))⟩,
  ⟨(some 2), none, .mov (.tmp 48)⟩] []) (.seq (.reg [
  ⟨(some 50), none, .load 4 true (.tmp 5)⟩,
  ⟨(some 51), none, .mov (.tmp 1)⟩,
  ⟨(some 52), none, .call id_udp_Bytes [(.tmp 50), (.tmp 51)]⟩,
  ⟨(some 49), none, .mov (.tmp 52)⟩,
  ⟨(some 53), none, .extract (.tmp 49) 0⟩,
  ⟨(some 54), none, .extract (.tmp 49) 1⟩,
  ⟨(some 11), none, .mov (.tmp 53)⟩,
  ⟨(some 12), none, .mov (.tmp 54)⟩] []) (.seq (.seq (.reg [
  ⟨(some 55), none, .mov (.tmp 12)⟩,
  ⟨(some 56), none, .eqNil 1 true (.tmp 55)⟩] []) (.cond (.tmp 56) (.seq (.reg [
  ⟨(some 57), none, .mov (.tmp 11)⟩,
  ⟨(some 58), none, .bin .eql (.tmp 57) (.cst (LV.str []))⟩,
  ⟨(some 10), none, .mov (.tmp 58)⟩] []) .ret) .skip)) (.seq (.reg [
  ⟨(some 60), none, .mov (.tmp 11)⟩,
  ⟨(some 61), none, .call id_udp_Parse [(.tmp 60)]⟩,
  ⟨(some 59), none, .mov (.tmp 61)⟩,
  ⟨(some 62), none, .extract (.tmp 59) 0⟩,
  ⟨(some 63), none, .extract (.tmp 59) 1⟩,
  ⟨(some 13), none, .alloc (LV.agg [(LV.int .i64 0), (LV.int .i64 0), (LV.int .i64 0), (LV.str [])])⟩,
  ⟨none, none, .store 4 true (.tmp 13) (.tmp 62)⟩,
  ⟨(some 14), none, .mov (.tmp 63)⟩] []) (.seq (.reg [
  ⟨(some 64), none, .mov (.tmp 3)⟩,
  ⟨(some 65), none, .conv .i64 (.tmp 64)⟩,
  ⟨(some 66), none, .mov (.tmp 4)⟩,
  ⟨(some 67), none, .conv .i64 (.tmp 66)⟩,
  ⟨(some 68), none, .fieldAddr 0 0 (.tmp 13)⟩,
  ⟨none, none, .store 1 false (.tmp 68) (.tmp 65)⟩,
  ⟨(some 69), none, .fieldAddr 1 1 (.tmp 13)⟩,
  ⟨none, none, .store 1 false (.tmp 69) (.tmp 67)⟩] []) (.seq (.reg [
  ⟨(some 71), none, .load 4 true (.tmp 13)⟩,
  ⟨(some 72), none, .mov (.tmp 2)⟩,
  ⟨(some 73), none, .call id_udp_Bytes [(.tmp 71), (.tmp 72)]⟩,
  ⟨(some 70), none, .mov (.tmp 73)⟩,
  ⟨(some 74), none, .extract (.tmp 70) 0⟩,
  ⟨(some 75), none, .extract (.tmp 70) 1⟩,
  ⟨(some 15), none, .mov (.tmp 74)⟩,
  ⟨(some 16), none, .mov (.tmp 75)⟩] []) (.seq (.reg [
  ⟨(some 77), none, .mov (.tmp 15)⟩,
  ⟨(some 78), none, .call id_udp_Parse [(.tmp 77)]⟩,
  ⟨(some 76), none, .mov (.tmp 78)⟩,
  ⟨(some 79), none, .extract (.tmp 76) 0⟩,
  ⟨(some 80), none, .extract (.tmp 76) 1⟩,
  ⟨(some 17), none, .alloc (LV.agg [(LV.int .i64 0), (LV.int .i64 0), (LV.int .i64 0), (LV.str [])])⟩,
  ⟨none, none, .store 4 true (.tmp 17) (.tmp 79)⟩,
  ⟨(some 18), none, .mov (.tmp 80)⟩] []) (.seq (.reg [
  ⟨(some 81), none, .fieldAddr 0 0 (.tmp 5)⟩,
  ⟨(some 82), none, .load 1 false (.tmp 81)⟩,
  ⟨(some 83), none, .fieldAddr 1 1 (.tmp 5)⟩,
  ⟨(some 84), none, .load 1 false (.tmp 83)⟩,
  ⟨(some 85), none, .fieldAddr 0 0 (.tmp 17)⟩,
  ⟨none, none, .store 1 false (.tmp 85) (.tmp 82)⟩,
  ⟨(some 86), none, .fieldAddr 1 1 (.tmp 17)⟩,
  ⟨none, none, .store 1 false (.tmp 86) (.tmp 84)⟩] [((.tmp 83), (.tmp 85))]) (.seq (.reg [
  ⟨(some 88), none, .load 4 true (.tmp 17)⟩,
  ⟨(some 89), none, .mov (.tmp 1)⟩,
  ⟨(some 90), none, .call id_udp_Bytes [(.tmp 88), (.tmp 89)]⟩,
  ⟨(some 87), none, .mov (.tmp 90)⟩,
  ⟨(some 91), none, .extract (.tmp 87) 0⟩,
  ⟨(some 92), none, .extract (.tmp 87) 1⟩,
  ⟨(some 19), none, .mov (.tmp 91)⟩,
  ⟨(some 20), none, .mov (.tmp 92)⟩] []) (.seq (.seq (.reg [
  ⟨(some 93), none, .mov (.tmp 14)⟩,
  ⟨(some 94), none, .eqNil 1 true (.tmp 93)⟩,
  ⟨(some 95), none, .mov (.tmp 94)⟩,
  ⟨(some 96), (some (95, false)), .mov (.tmp 16)⟩,
  ⟨(some 97), (some (95, false)), .eqNil 1 true (.tmp 96)⟩,
  ⟨(some 98), none, .pick (.tmp 95) (.cst (LV.bool true)) (.tmp 97)⟩,
  ⟨(some 99), none, .mov (.tmp 98)⟩,
  ⟨(some 100), (some (99, false)), .mov (.tmp 18)⟩,
  ⟨(some 101), (some (99, false)), .eqNil 1 true (.tmp 100)⟩,
  ⟨(some 102), none, .pick (.tmp 99) (.cst (LV.bool true)) (.tmp 101)⟩,
  ⟨(some 103), none, .mov (.tmp 102)⟩,
  ⟨(some 104), (some (103, false)), .mov (.tmp 20)⟩,
  ⟨(some 105), (some (103, false)), .eqNil 1 true (.tmp 104)⟩,
  ⟨(some 106), none, .pick (.tmp 103) (.cst (LV.bool true)) (.tmp 105)⟩,
  ⟨(some 107), none, .mov (.tmp 106)⟩,
  ⟨(some 108), (some (107, false)), .mov (.tmp 19)⟩,
  ⟨(some 109), (some (107, false)), .mov (.tmp 11)⟩,
  ⟨(some 110), (some (107, false)), .bin .neq (.tmp 108) (.tmp 109)⟩,
  ⟨(some 111), none, .pick (.tmp 107) (.cst (LV.bool true)) (.tmp 110)⟩,
  ⟨(some 112), none, .mov (.tmp 111)⟩,
  ⟨(some 113), (some (112, false)), .mov (.tmp 15)⟩,
  ⟨(some 114), (some (112, false)), .mov (.tmp 2)⟩,
  ⟨(some 115), (some (112, false)), .call id_udp_Check [(.tmp 113), (.tmp 114)]⟩,
  ⟨(some 116), (some (112, false)), .eqNil 1 true (.tmp 115)⟩,
  ⟨(some 117), none, .pick (.tmp 112) (.cst (LV.bool true)) (.tmp 116)⟩] []) (.cond (.tmp 117) (.seq (.reg [
  ⟨(some 10), none, .mov (.cst (LV.bool false))⟩] []) .ret) .skip)) (.seq (.reg [
  ⟨(some 118), none, .mov (.tmp 15)⟩,
  ⟨(some 119), none, .mov (.tmp 1)⟩,
  ⟨(some 120), none, .call id_udp_Check [(.tmp 118), (.tmp 119)]⟩,
  ⟨(some 121), none, .eqNil 1 false (.tmp 120)⟩,
  ⟨(some 122), none, .mov (.tmp 1)⟩,
  ⟨(some 123), none, .mov (.tmp 15)⟩,
  ⟨(some 124), none, .bsl (LV.str []) 2 [(0, (.tmp 122)), (1, (.tmp 123))]⟩,
  ⟨(some 125), none, .call id_sum_Right [(.tmp 124)]⟩,
  ⟨(some 126), none, .eqB false (.tmp 121) (.tmp 125)⟩,
  ⟨(some 10), none, .mov (.tmp 126)⟩] []) .ret))))))))))))))), [.tmp 10]⟩
/-- interpreter/interpreterlaw06.TcpKnown -/
def c_interpreterlaw06_TcpKnown : MFn := ⟨0, 82, (.seq (.reg [
  ⟨(some 0), none, .mov (.cst (LV.bool false))⟩] []) (.seq (.reg [
  ⟨(some 12), none, .call id_interpreterlaw06_raw []⟩,
  ⟨(some 13), none, .slc 0 (.tmp 12) none (some (.cst (LV.int .i64 19)))⟩,
  ⟨(some 14), none, .call id_tcp_Parse [(.tmp 13)]⟩,
  ⟨(some 11), none, .mov (.tmp 14)⟩,
  ⟨(some 15), none, .extract (.tmp 11) 0⟩,
  ⟨(some 16), none, .extract (.tmp 11) 1⟩,
  ⟨(some 1), none, .alloc (LV.agg [(LV.int .i64 0), (LV.int .i64 0), (LV.int .i64 0), (LV.str [])])⟩,
  ⟨none, none, .store 4 true (.tmp 1) (.tmp 15)⟩,
  ⟨(some 2), none, .mov (.tmp 16)⟩] []) (.seq (.reg [
  ⟨(some 18), none, .call id_strings_Repeat [(.cst (LV.str [0])), (.cst (LV.int .i64 20))]⟩,
  ⟨(some 19), none, .call id_tcp_Parse [(.tmp 18)]⟩,
  ⟨(some 17), none, .mov (.tmp 19)⟩,
  ⟨(some 20), none, .extract (.tmp 17) 0⟩,
  ⟨(some 21), none, .extract (.tmp 17) 1⟩,
  ⟨(some 3), none, .alloc (LV.agg [(LV.int .i64 0), (LV.int .i64 0), (LV.int .i64 0), (LV.str [])])⟩,
  ⟨none, none, .store 4 true (.tmp 3) (.tmp 20)⟩,
  ⟨(some 4), none, .mov (.tmp 21)⟩] []) (.seq (.reg [
  ⟨(some 23), none, .call id_interpreterlaw06_raw []⟩,
  ⟨(some 24), none, .build (LV.agg [(LV.int .i64 0), (LV.int .i64 0), (LV.int .i64 0), (LV.str [])]) [(0, (.cst (LV.int .i64 65536))), (3, (.tmp 23))]⟩,
  ⟨(some 25), none, .call id_tcp_Bytes [(.tmp 24), (.cst (LV.str []))]⟩,
  ⟨(some 22), none, .mov (.tmp 25)⟩,
  ⟨(some 26), none, .extract (.tmp 22) 0⟩,
  ⟨(some 27), none, .extract (.tmp 22) 1⟩,
  ⟨(some 5), none, .mov (.tmp 26)⟩,
  ⟨(some 6), none, .mov (.tmp 27)⟩] []) (.seq (.reg [
  ⟨(some 29), none, .call id_interpreterlaw06_raw []⟩,
  ⟨(some 30), none, .slc 0 (.tmp 29) none (some (.cst (LV.int .i64 13)))⟩,
  ⟨(some 31), none, .bin .add (.tmp 30) (.cst (LV.str [255]))⟩,
  ⟨(some 32), none, .call id_interpreterlaw06_raw []⟩,
  ⟨(some 33), none, .slc 0 (.tmp 32) (some (.cst (LV.int .i64 14))) none⟩,
  ⟨(some 34), none, .bin .add (.tmp 31) (.tmp 33)⟩,
  ⟨(some 35), none, .call id_tcp_Parse [(.tmp 34)]⟩,
  ⟨(some 28), none, .mov (.tmp 35)⟩,
  ⟨(some 36), none, .extract (.tmp 28) 0⟩,
  ⟨(some 37), none, .extract (.tmp 28) 1⟩,
  ⟨(some 7), none, .alloc (LV.agg [(LV.int .i64 0), (LV.int .i64 0), (LV.int .i64 0), (LV.str [])])⟩,
  ⟨none, none, .store 4 true (.tmp 7) (.tmp 36)⟩,
  ⟨(some 8), none, .mov (.tmp 37)⟩] []) (.seq (.reg [
  ⟨(some 39), none, .call id_interpreterlaw06_raw []⟩,
  ⟨(some 40), none, .slc 0 (.tmp 39) none (some (.cst (LV.int .i64 12)))⟩,
  ⟨(some 41), none, .bin .add (.tmp 40) (.cst (LV.str [96]))⟩,
  ⟨(some 42), none, .call id_interpreterlaw06_raw []⟩,
  ⟨(some 43), none, .slc 0 (.tmp 42) (some (.cst (LV.int .i64 13))) none⟩,
  ⟨(some 44), none, .bin .add (.tmp 41) (.tmp 43)⟩,
  ⟨(some 45), none, .call id_tcp_Parse [(.tmp 44)]⟩,
  ⟨(some 38), none, .mov (.tmp 45)⟩,
  ⟨(some 46), none, .extract (.tmp 38) 0⟩,
  ⟨(some 47), none, .extract (.tmp 38) 1⟩,
  ⟨(some 9), none, .alloc (LV.agg [(LV.int .i64 0), (LV.int .i64 0), (LV.int .i64 0), (LV.str [])])⟩,
  ⟨none, none, .store 4 true (.tmp 9) (.tmp 46)⟩,
  ⟨(some 10), none, .mov (.tmp 47)⟩] []) (.seq (.reg [
  ⟨(some 48), none, .call id_interpreterlaw06_awake []⟩,
  ⟨(some 49), none, .mov (.tmp 48)⟩,
  ⟨(some 50), (some (49, true)), .mov (.tmp 2)⟩,
  ⟨(some 51), (some (49, true)), .call id_interpreterlaw06_same [(.tmp 50), (.cst (LV.int .i64 7))]⟩,
  ⟨(some 52), none, .pick (.tmp 49) (.tmp 51) (.cst (LV.bool false))⟩,
  ⟨(some 53), none, .mov (.tmp 52)⟩,
  ⟨(some 54), (some (53, true)), .mov (.tmp 4)⟩,
  ⟨(some 55), (some (53, true)), .call id_interpreterlaw06_same [(.tmp 54), (.cst (LV.int .i64 8))]⟩,
  ⟨(some 56), none, .pick (.tmp 53) (.tmp 55) (.cst (LV.bool false))⟩,
  ⟨(some 57), none, .mov (.tmp 56)⟩,
  ⟨(some 58), (some (57, true)), .mov (.tmp 6)⟩,
  ⟨(some 59), (some (57, true)), .call id_interpreterlaw06_same [(.tmp 58), (.cst (LV.int .i64 13))]⟩,
  ⟨(some 60), none, .pick (.tmp 57) (.tmp 59) (.cst (LV.bool false))⟩,
  ⟨(some 61), none, .mov (.tmp 60)⟩,
  ⟨(some 62), (some (61, true)), .mov (.tmp 8)⟩,
  ⟨(some 63), (some (61, true)), .eqNil 1 false (.tmp 62)⟩,
  ⟨(some 64), none, .pick (.tmp 61) (.tmp 63) (.cst (LV.bool false))⟩,
  ⟨(some 65), none, .mov (.tmp 64)⟩,
  ⟨(some 66), (some (65, true)), .fieldAddr 2 2 (.tmp 7)⟩,
  ⟨(some 67), (some (65, true)), .load 1 false (.tmp 66)⟩,
  ⟨(some 68), (some (65, true)), .bin .eql (.tmp 67) (.cst (LV.int .i64 63))⟩,
  ⟨(some 69), none, .pick (.tmp 65) (.tmp 68) (.cst (LV.bool false))⟩,
  ⟨(some 70), none, .mov (.tmp 69)⟩,
  ⟨(some 71), (some (70, true)), .mov (.tmp 10)⟩,
  ⟨(some 72), (some (70, true)), .call id_interpreterlaw06_same [(.tmp 71), (.cst (LV.int .i64 7))]⟩,
  ⟨(some 73), none, .pick (.tmp 70) (.tmp 72) (.cst (LV.bool false))⟩,
  ⟨(some 74), none, .mov (.tmp 73)⟩,
  ⟨(some 75), none, .pick (.tmp 74) (.cst (LV.bool true)) (.cst (LV.bool false))⟩,
  ⟨(some 76), none, .mov (.tmp 75)⟩,
  ⟨(some 77), none, .pick (.tmp 76) (.cst (LV.bool true)) (.cst (LV.bool false))⟩,
  ⟨(some 78), none, .mov (.tmp 77)⟩,
  ⟨(some 79), none, .pick (.tmp 78) (.cst (LV.bool true)) (.cst (LV.bool false))⟩,
  ⟨(some 80), none, .mov (.tmp 79)⟩,
  ⟨(some 81), none, .pick (.tmp 80) (.cst (LV.bool true)) (.cst (LV.bool false))⟩,
  ⟨(some 0), none, .mov (.tmp 81)⟩] []) .ret))))))), [.tmp 0]⟩
/-- interpreter/interpreterlaw06.TcpWrites -/
def c_interpreterlaw06_TcpWrites : MFn := ⟨2, 40, (.seq (.reg [
  ⟨(some 2), none, .box (.tmp 0)⟩,
  ⟨(some 4), none, .mov (.cst (LV.bool false))⟩] []) (.seq (.seq (.reg [
  ⟨(some 9), none, .call id_interpreterlaw06_awake []⟩,
  ⟨(some 10), none, .un .not (.tmp 9)⟩] []) (.cond (.tmp 10) (.seq (.reg [
  ⟨(some 4), none, .mov (.cst (LV.bool false))⟩] []) .ret) .skip)) (.seq (.seq (.reg [
  ⟨(some 11), none, .fieldAddr 3 3 (.tmp 2)⟩,
  ⟨(some 12), none, .load 1 false (.tmp 11)⟩,
  ⟨(some 13), none, .len true (.tmp 12)⟩,
  ⟨(some 14), none, .bin .gtr (.tmp 13) (.cst (LV.int .i64 70000))⟩,
  ⟨(some 15), none, .mov (.tmp 14)⟩,
  ⟨(some 16), (some (15, false)), .mov (.tmp 1)⟩,
  ⟨(some 17), (some (15, false)), .len true (.tmp 16)⟩,
  ⟨(some 18), (some (15, false)), .bin .gtr (.tmp 17) (.cst (LV.int .i64 1000))⟩,
  ⟨(some 19), none, .pick (.tmp 15) (.cst (LV.bool true)) (.tmp 18)⟩] []) (.cond (.tmp 19) (.seq (.reg [
  ⟨(some 4), none, .mov (.cst (LV.bool true))⟩] []) .ret) .skip)) (.seq (.reg [
  ⟨(some 21), none, .load 4 true (.tmp 2)⟩,
  ⟨(some 22), none, .mov (.tmp 1)⟩,
  ⟨(some 23), none, .call id_tcp_Bytes [(.tmp 21), (.tmp 22)]⟩,
  ⟨(some 20), none, .mov (.tmp 23)⟩,
  ⟨(some 24), none, .extract (.tmp 20) 0⟩,
  ⟨(some 25), none, .extract (.tmp 20) 1⟩,
  ⟨(some 5), none, .mov (.tmp 24)⟩,
  ⟨(some 6), none, .mov (.tmp 25)⟩] []) (.seq (.reg [
  ⟨(some 27), none, .load 4 true (.tmp 2)⟩,
  ⟨(some 28), none, .mov (.tmp 1)⟩,
  ⟨(some 29), none, .call id_interpreterref06_Bytes [(.tmp 27), (.tmp 28)]⟩,
  ⟨(some 26), none, .mov (.tmp 29)⟩,
  ⟨(some 30), none, .extract (.tmp 26) 0⟩,
  ⟨(some 31), none, .extract (.tmp 26) 1⟩,
  ⟨(some 7), none, .mov (.tmp 30)⟩,
  ⟨(some 8), none, .mov (.tmp 31)⟩] []) (.seq (.reg [
  ⟨(some 32), none, .mov (.tmp 5)⟩,
  ⟨(some 33), none, .mov (.tmp 7)⟩,
  ⟨(some 34), none, .bin .eql (.tmp 32) (.tmp 33)⟩,
  ⟨(some 35), none, .mov (.tmp 34)⟩,
  ⟨(some 36), (some (35, true)), .mov (.tmp 6)⟩,
  ⟨(some 37), (some (35, true)), .mov (.tmp 8)⟩,
  ⟨(some 38), (some (35, true)), .call id_interpreterlaw06_same [(.tmp 36), (.tmp 37)]⟩,
  ⟨(some 39), none, .pick (.tmp 35) (.tmp 38) (.cst (LV.bool false))⟩,
  ⟨(some 4), none, .mov (.tmp 39)⟩] []) .ret)))))), [.tmp 4]⟩
/-- interpreter/interpreterlaw06.TcpReads -/
def c_interpreterlaw06_TcpReads : MFn := ⟨2, 46, (.seq (.reg [
  ⟨(some 4), none, .mov (.cst (LV.bool false))⟩] []) (.seq (.seq (.reg [
  ⟨(some 9), none, .call id_interpreterlaw06_awake []⟩,
  ⟨(some 10), none, .un .not (.tmp 9)⟩] []) (.cond (.tmp 10) (.seq (.reg [
  ⟨(some 4), none, .mov (.cst (LV.bool false))⟩] []) .ret) .skip)) (.seq (.seq (.reg [
  ⟨(some 11), none, .mov (.tmp 0)⟩,
  ⟨(some 12), none, .len true (.tmp 11)⟩,
  ⟨(some 13), none, .bin .gtr (.tmp 12) (.cst (LV.int .i64 70000))⟩,
  ⟨(some 14), none, .mov (.tmp 13)⟩,
  ⟨(some 15), (some (14, false)), .mov (.tmp 1)⟩,
  ⟨(some 16), (some (14, false)), .len true (.tmp 15)⟩,
  ⟨(some 17), (some (14, false)), .bin .gtr (.tmp 16) (.cst (LV.int .i64 1000))⟩,
  ⟨(some 18), none, .pick (.tmp 14) (.cst (LV.bool true)) (.tmp 17)⟩] []) (.cond (.tmp 18) (.seq (.reg [
  ⟨(some 4), none, .mov (.cst (LV.bool true))⟩] []) .ret) .skip)) (.seq (.reg [
  ⟨(some 20), none, .mov (.tmp 0)⟩,
  ⟨(some 21), none, .call id_tcp_Parse [(.tmp 20)]⟩,
  ⟨(some 19), none, .mov (.tmp 21)⟩,
  ⟨(some 22), none, .extract (.tmp 19) 0⟩,
  ⟨(some 23), none, .extract (.tmp 19) 1⟩,
  ⟨(some 5), none, .alloc (LV.agg [(LV.int .i64 0), (LV.int .i64 0), (LV.int .i64 0), (LV.str [])])⟩,
  ⟨none, none, .store 4 true (.tmp 5) (.tmp 22)⟩,
  ⟨(some 6), none, .mov (.tmp 23)⟩] []) (.seq (.reg [
  ⟨(some 25), none, .mov (.tmp 0)⟩,
  ⟨(some 26), none, .call id_interpreterref06_Parse [(.tmp 25)]⟩,
  ⟨(some 24), none, .mov (.tmp 26)⟩,
  ⟨(some 27), none, .extract (.tmp 24) 0⟩,
  ⟨(some 28), none, .extract (.tmp 24) 1⟩,
  ⟨(some 7), none, .alloc (LV.agg [(LV.int .i64 0), (LV.int .i64 0), (LV.int .i64 0), (LV.str [])])⟩,
  ⟨none, none, .store 4 true (.tmp 7) (.tmp 27)⟩,
  ⟨(some 8), none, .mov (.tmp 28)⟩] []) (.seq (.reg [
  ⟨(some 29), none, .load 4 true (.tmp 5)⟩,
  ⟨(some 30), none, .load 4 true (.tmp 7)⟩,
  ⟨(some 31), none, .eqS (Sh.agg [(Sh.int .i64), (Sh.int .i64), (Sh.int .i64), Sh.str]) false (.tmp 29) (.tmp 30)⟩,
  ⟨(some 32), none, .mov (.tmp 31)⟩,
  ⟨(some 33), (some (32, true)), .mov (.tmp 6)⟩,
  ⟨(some 34), (some (32, true)), .mov (.tmp 8)⟩,
  ⟨(some 35), (some (32, true)), .call id_interpreterlaw06_same [(.tmp 33), (.tmp 34)]⟩,
  ⟨(some 36), none, .pick (.tmp 32) (.tmp 35) (.cst (LV.bool false))⟩,
  ⟨(some 37), none, .mov (.tmp 36)⟩,
  ⟨(some 38), (some (37, true)), .mov (.tmp 0)⟩,
  ⟨(some 39), (some (37, true)), .mov (.tmp 1)⟩,
  ⟨(some 40), (some (37, true)), .call id_tcp_Check [(.tmp 38), (.tmp 39)]⟩,
  ⟨(some 41), (some (37, true)), .mov (.tmp 0)⟩,
  ⟨(some 42), (some (37, true)), .mov (.tmp 1)⟩,
  ⟨(some 43), (some (37, true)), .call id_interpreterref06_Check [(.tmp 41), (.tmp 42)]⟩,
  ⟨(some 44), (some (37, true)), .call id_interpreterlaw06_same [(.tmp 40), (.tmp 43)]⟩,
  ⟨(some 45), none, .pick (.tmp 37) (.tmp 44) (.cst (LV.bool false))⟩,
  ⟨(some 4), none, .mov (.tmp 45)⟩] []) .ret)))))), [.tmp 4]⟩
/-- interpreter/interpreterlaw06.TcpBack -/
def c_interpreterlaw06_TcpBack : MFn := ⟨4, 137, (.seq (.reg [
  ⟨(some 4), none, .box (.tmp 0)⟩,
  ⟨(some 8), none, .mov (.cst (LV.bool false))⟩] []) (.seq (.seq (.reg [
  ⟨(some 15), none, .call id_interpreterlaw06_awake []⟩,
  ⟨(some 16), none, .un .not (.tmp 15)⟩] []) (.cond (.tmp 16) (.seq (.reg [
  ⟨(some 8), none, .mov (.cst (LV.bool false))⟩] []) .ret) .skip)) (.seq (.seq (.reg [
  ⟨(some 17), none, .fieldAddr 3 3 (.tmp 4)⟩,
  ⟨(some 18), none, .load 1 false (.tmp 17)⟩,
  ⟨(some 19), none, .len true (.tmp 18)⟩,
  ⟨(some 20), none, .bin .gtr (.tmp 19) (.cst (LV.int .i64 70000))⟩,
  ⟨(some 21), none, .mov (.tmp 20)⟩,
  ⟨(some 22), (some (21, false)), .mov (.tmp 1)⟩,
  ⟨(some 23), (some (21, false)), .len true (.tmp 22)⟩,
  ⟨(some 24), (some (21, false)), .bin .gtr (.tmp 23) (.cst (LV.int .i64 1000))⟩,
  ⟨(some 25), none, .pick (.tmp 21) (.cst (LV.bool true)) (.tmp 24)⟩] []) (.cond (.tmp 25) (.seq (.reg [
  ⟨(some 8), none, .mov (.cst (LV.bool true))⟩] []) .ret) .skip)) (.seq (.reg [
  ⟨(some 26), none, .mov (.tmp 1)⟩,
  ⟨(some 27), none, .mov (.tmp 1)⟩,
  ⟨(some 28), none, .len true (.tmp 27)⟩,
  ⟨(some 29), none, .bin .quo (.tmp 28) (.cst (LV.int .i64 2))⟩,
  ⟨(some 30), none, .bin .mul (.tmp 29) (.cst (LV.int .i64 2))⟩,
  ⟨(some 31), none, .slc 0 (.tmp 26) none (some (.tmp 30))⟩,
  ⟨(some 1), none, .mov (.tmp 31)⟩] []) (.seq (.reg [
  ⟨(some 33), none, .load 4 true (.tmp 4)⟩,
  ⟨(some 34), none, .mov (.tmp 1)⟩,
  ⟨(some 35), none, .call id_tcp_Bytes [(.tmp 33), (.tmp 34)]⟩,
  ⟨(some 32), none, .mov (.tmp 35)⟩,
  ⟨(some 36), none, .extract (.tmp 32) 0⟩,
  ⟨(some 37), none, .extract (.tmp 32) 1⟩,
  ⟨(some 9), none, .mov (.tmp 36)⟩,
  ⟨(some 10), none, .mov (.tmp 37)⟩] []) (.seq (.seq (.reg [
  ⟨(some 38), none, .mov (.tmp 10)⟩,
  ⟨(some 39), none, .eqNil 1 true (.tmp 38)⟩] []) (.cond (.tmp 39) (.seq (.reg [
  ⟨(some 40), none, .mov (.tmp 9)⟩,
  ⟨(some 41), none, .bin .eql (.tmp 40) (.cst (LV.str []))⟩,
  ⟨(some 8), none, .mov (.tmp 41)⟩] []) .ret) .skip)) (.seq (.reg [
  ⟨(some 43), none, .mov (.tmp 9)⟩,
  ⟨(some 44), none, .call id_tcp_Parse [(.tmp 43)]⟩,
  ⟨(some 42), none, .mov (.tmp 44)⟩,
  ⟨(some 45), none, .extract (.tmp 42) 0⟩,
  ⟨(some 46), none, .extract (.tmp 42) 1⟩,
  ⟨(some 11), none, .alloc (LV.agg [(LV.int .i64 0), (LV.int .i64 0), (LV.int .i64 0), (LV.str [])])⟩,
  ⟨none, none, .store 4 true (.tmp 11) (.tmp 45)⟩,
  ⟨(some 12), none, .mov (.tmp 46)⟩] []) (.seq (.seq (.reg [
  ⟨(some 47), none, .mov (.tmp 12)⟩,
  ⟨(some 48), none, .eqNil 1 true (.tmp 47)⟩,
  ⟨(some 49), none, .mov (.tmp 48)⟩,
  ⟨(some 50), (some (49, false)), .mov (.tmp 9)⟩,
  ⟨(some 51), (some (49, false)), .len true (.tmp 50)⟩,
  ⟨(some 52), (some (49, false)), .fieldAddr 3 3 (.tmp 4)⟩,
  ⟨(some 53), (some (49, false)), .load 1 false (.tmp 52)⟩,
  ⟨(some 54), (some (49, false)), .len true (.tmp 53)⟩,
  ⟨(some 55), (some (49, false)), .bin .neq (.tmp 51) (.tmp 54)⟩,
  ⟨(some 56), none, .pick (.tmp 49) (.cst (LV.bool true)) (.tmp 55)⟩,
  ⟨(some 57), none, .mov (.tmp 56)⟩,
  ⟨(some 58), (some (57, false)), .mov (.tmp 9)⟩,
  ⟨(some 59), (some (57, false)), .len true (.tmp 58)⟩,
  ⟨(some 60), (some (57, false)), .bin .lss (.tmp 59) (.cst (LV.int .i64 20))⟩,
  ⟨(some 61), none, .pick (.tmp 57) (.cst (LV.bool true)) (.tmp 60)⟩,
  ⟨(some 62), none, .mov (.tmp 61)⟩,
  ⟨(some 63), (some (62, false)), .fieldAddr 0 0 (.tmp 11)⟩,
  ⟨(some 64), (some (62, false)), .load 1 false (.tmp 63)⟩,
  ⟨(some 65), (some (62, false)), .fieldAddr 0 0 (.tmp 4)⟩,
  ⟨(some 66), (some (62, false)), .load 1 false (.tmp 65)⟩,
  ⟨(some 67), (some (62, false)), .bin .neq (.tmp 64) (.tmp 66)⟩,
  ⟨(some 68), none, .pick (.tmp 62) (.cst (LV.bool true)) (.tmp 67)⟩,
  ⟨(some 69), none, .mov (.tmp 68)⟩,
  ⟨(some 70), (some (69, false)), .fieldAddr 1 1 (.tmp 11)⟩,
  ⟨(some 71), (some (69, false)), .load 1 false (.tmp 70)⟩,
  ⟨(some 72), (some (69, false)), .fieldAddr 1 1 (.tmp 4)⟩,
  ⟨(some 73), (some (69, false)), .load 1 false (.tmp 72)⟩,
  ⟨(some 74), (some (69, false)), .bin .neq (.tmp 71) (.tmp 73)⟩,
  ⟨(some 75), none, .pick (.tmp 69) (.cst (LV.bool true)) (.tmp 74)⟩,
  ⟨(some 76), none, .mov (.tmp 75)⟩,
  ⟨(some 77), (some (76, false)), .fieldAddr 3 3 (.tmp 11)⟩,
  ⟨(some 78), (some (76, false)), .load 1 false (.tmp 77)⟩,
  ⟨(some 79), (some (76, false)), .mov (.tmp 9)⟩,
  ⟨(some 80), (some (76, false)), .bin .neq (.tmp 78) (.tmp 79)⟩,
  ⟨(some 81), none, .pick (.tmp 76) (.cst (LV.bool true)) (.tmp 80)⟩,
  ⟨(some 82), none, .mov (.tmp 81)⟩,
  ⟨(some 83), (some (82, false)), .mov (.tmp 9)⟩,
  ⟨(some 84), (some (82, false)), .mov (.tmp 1)⟩,
  ⟨(some 85), (some (82, false)), .call id_tcp_Check [(.tmp 83), (.tmp 84)]⟩,
  ⟨(some 86), (some (82, false)), .eqNil 1 true (.tmp 85)⟩,
  ⟨(some 87), none, .pick (.tmp 82) (.cst (LV.bool true)) (.tmp 86)⟩,
  ⟨(some 88), none, .mov (.tmp 87)⟩,
  ⟨(some 89), (some (88, false)), .mov (.tmp 9)⟩,
  ⟨(some 90), (some (88, false)), .slc 0 (.tmp 89) (some (.cst (LV.int .i64 4))) (some (.cst (LV.int .i64 16)))⟩,
  ⟨(some 91), (some (88, false)), .fieldAddr 3 3 (.tmp 4)⟩,
  ⟨(some 92), (some (88, false)), .load 1 false (.tmp 91)⟩,
  ⟨(some 93), (some (88, false)), .slc 0 (.tmp 92) (some (.cst (LV.int .i64 4))) (some (.cst (LV.int .i64 16)))⟩,
  ⟨(some 94), (some (88, false)), .bin .neq (.tmp 90) (.tmp 93)⟩,
  ⟨(some 95), none, .pick (.tmp 88) (.cst (LV.bool true)) (.tmp 94)⟩,
  ⟨(some 96), none, .mov (.tmp 95)⟩,
  ⟨(some 97), (some (96, false)), .mov (.tmp 9)⟩,
  ⟨(some 98), (some (96, false)), .slc 0 (.tmp 97) (some (.cst (LV.int .i64 18))) none⟩,
  ⟨(some 99), (some (96, false)), .fieldAddr 3 3 (.tmp 4)⟩,
  ⟨(some 100), (some (96, false)), .load 1 false (.tmp 99)⟩,
  ⟨(some 101), (some (96, false)), .slc 0 (.tmp 100) (some (.cst (LV.int .i64 18))) none⟩,
  ⟨(some 102), (some (96, false)), .bin .neq (.tmp 98) (.tmp 101)⟩,
  ⟨(some 103), none, .pick (.tmp 96) (.cst (LV.bool true)) (.tmp 102)⟩,
  ⟨(some 104), none, .mov (.tmp 103)⟩,
  ⟨(some 105), (some (104, false)), .fieldAddr 2 2 (.tmp 11)⟩,
  ⟨(some 106), (some (104, false)), .load 1 false (.tmp 105)⟩,
  ⟨(some 107), (some (104, false)), .fieldAddr 3 3 (.tmp 4)⟩,
  ⟨(some 108), (some (104, false)), .load 1 false (.tmp 107)⟩,
  ⟨(some 109), (some (104, false)), .idxStr (.tmp 108) (.cst (LV.int .i64 13))⟩,
  ⟨(some 110), (some (104, false)), .bin .and (.tmp 109) (.cst (LV.int .u8 63))⟩,
  ⟨(some 111), (some (104, false)), .conv .i64 (.tmp 110)⟩,
  ⟨(some 112), (some (104, false)), .bin .neq (.tmp 106) (.tmp 111)⟩,
  ⟨(some 113), none, .pick (.tmp 104) (.cst (LV.bool true)) (.tmp 112)⟩] []) (.cond (.tmp 113) (.seq (.reg [
  ⟨(some 8), none, .mov (.cst (LV.bool false))⟩] []) .ret) .skip)) (.seq (.reg [
  ⟨(some 114), none, .mov (.tmp 9)⟩,
  ⟨(some 115), none, .s2b (.tmp 114)⟩,
  ⟨(some 13), none, .mov (.tmp 115)⟩] []) (.seq (.reg [
  ⟨(some 116), none, .mov (.tmp 2)⟩,
  ⟨(some 117), none, .conv .i64 (.tmp 116)⟩,
  ⟨(some 118), none, .mov (.tmp 13)⟩,
  ⟨(some 119), none, .len false (.tmp 118)⟩,
  ⟨(some 120), none, .bin .rem (.tmp 117) (.tmp 119)⟩,
  ⟨(some 14), none, .mov (.tmp 120)⟩] []) (.seq (.reg [
  ⟨(some 121), none, .mov (.tmp 13)⟩,
  ⟨(some 122), none, .mov (.tmp 14)⟩,
  ⟨(some 123), none, .mov (.tmp 13)⟩,
  ⟨(some 124), none, .mov (.tmp 14)⟩,
  ⟨(some 125), none, .idxAddr none 1 (.tmp 123) (.tmp 124)⟩,
  ⟨(some 126), none, .load 1 false (.tmp 125)⟩,
  ⟨(some 127), none, .mov (.tmp 3)⟩,
  ⟨(some 128), none, .bin .rem (.tmp 127) (.cst (LV.int .u8 8))⟩,
  ⟨(some 129), none, .bin .shl (.cst (LV.int .u8 1)) (.tmp 128)⟩,
  ⟨(some 130), none, .bin .xor (.tmp 126) (.tmp 129)⟩,
  ⟨(some 131), none, .idxAddr none 1 (.tmp 121) (.tmp 122)⟩,
  ⟨none, none, .store 1 false (.tmp 131) (.tmp 130)⟩] []) (.seq (.reg [
  ⟨(some 132), none, .mov (.tmp 13)⟩,
  ⟨(some 133), none, .b2s (.tmp 132)⟩,
  ⟨(some 134), none, .mov (.tmp 1)⟩,
  ⟨(some 135), none, .call id_tcp_Check [(.tmp 133), (.tmp 134)]⟩,
  ⟨(some 136), none, .eqNil 1 true (.tmp 135)⟩,
  ⟨(some 8), none, .mov (.tmp 136)⟩] []) .ret)))))))))))), [.tmp 8]⟩
/-- interpreter/interpreterlaw06.TcpAgain -/
def c_interpreterlaw06_TcpAgain : MFn := ⟨4, 138, (.seq (.reg [
  ⟨(some 8), none, .mov (.cst (LV.bool false))⟩] []) (.seq (.seq (.reg [
  ⟨(some 17), none, .call id_interpreterlaw06_awake []⟩,
  ⟨(some 18), none, .un .not (.tmp 17)⟩] []) (.cond (.tmp 18) (.seq (.reg [
  ⟨(some 8), none, .mov (.cst (LV.bool false))⟩] []) .ret) .skip)) (.seq (.seq (.reg [
  ⟨(some 19), none, .mov (.tmp 0)⟩,
  ⟨(some 20), none, .len true (.tmp 19)⟩,
  ⟨(some 21), none, .bin .gtr (.tmp 20) (.cst (LV.int .i64 70000))⟩,
  ⟨(some 22), none, .mov (.tmp 21)⟩,
  ⟨(some 23), (some (22, false)), .mov (.tmp 1)⟩,
  ⟨(some 24), (some (22, false)), .len true (.tmp 23)⟩,
  ⟨(some 25), (some (22, false)), .bin .gtr (.tmp 24) (.cst (LV.int .i64 1000))⟩,
  ⟨(some 26), none, .pick (.tmp 22) (.cst (LV.bool true)) (.tmp 25)⟩] []) (.cond (.tmp 26) (.seq (.reg [
  ⟨(some 8), none, .mov (.cst (LV.bool true))⟩] []) .ret) .skip)) (.seq (.reg [
  ⟨(some 27), none, .mov (.tmp 1)⟩,
  ⟨(some 28), none, .mov (.tmp 1)⟩,
  ⟨(some 29), none, .len true (.tmp 28)⟩,
  ⟨(some 30), none, .bin .quo (.tmp 29) (.cst (LV.int .i64 2))⟩,
  ⟨(some 31), none, .bin .mul (.tmp 30) (.cst (LV.int .i64 2))⟩,
  ⟨(some 32), none, .slc 0 (.tmp 27) none (some (.tmp 31))⟩,
  ⟨(some 1), none, .mov (.tmp 32)⟩] []) (.seq (.reg [
  ⟨(some 34), none, .mov (.tmp 0)⟩,
  ⟨(some 35), none, .call id_tcp_Parse [(.tmp 34)]⟩,
  ⟨(some 33), none, .mov (.tmp 35)⟩,
  ⟨(some 36), none, .extract (.tmp 33) 0⟩,
  ⟨(some 37), none, .extract (.tmp 33) 1⟩,
  ⟨(some 9), none, .alloc (LV.agg [(LV.int .i64 0), (LV.int .i64 0), (LV.int .i64 0), (LV.str [])])⟩,
  ⟨none, none, .store 4 true (.tmp 9) (.tmp 36)⟩,
  ⟨(some 10), none, .mov (.tmp 37)⟩] []) (.seq (.seq (.reg [
  ⟨(some 38), none, .mov (.tmp 10)⟩,
  ⟨(some 39), none, .eqNil 1 true (.tmp 38)⟩] []) (.cond (.tmp 39) (.seq (.reg [
  ⟨(some 40), none, .load 4 true (.tmp 9)⟩,
  ⟨(some 41), none, .build (LV.agg [(LV.int .i64 0), (LV.int .i64 0), (LV.int .i64 0), (LV.str [])]) []⟩,
  ⟨(some 42), none, .eqS (Sh.agg [(Sh.int .i64), (Sh.int .i64), (Sh.int .i64), Sh.str]) false (.tmp 40) (.tmp 41)⟩,
  ⟨(some 43), none, .mov (.tmp 42)⟩,
  ⟨(some 44), (some (43, true)), .mov (.tmp 0)⟩,
  ⟨(some 45), (some (43, true)), .mov (.tmp 1)⟩,
  ⟨(some 46), (some (43, true)), .call id_tcp_Check [(.tmp 44), (.tmp 45)]⟩,
  ⟨(some 47), (some (43, true)), .eqNil 1 true (.tmp 46)⟩,
  ⟨(some 48), none, .pick (.tmp 43) (.tmp 47) (.cst (LV.bool false))⟩,
  ⟨(some 8), none, .mov (.tmp 48)⟩] []) .ret) .skip)) (.seq (.reg [
  ⟨(some 50), none, .load 4 true (.tmp 9)⟩,
  ⟨(some 51), none, .mov (.tmp 1)⟩,
  ⟨(some 52), none, .call id_tcp_Bytes [(.tmp 50), (.tmp 51)]⟩,
  ⟨(some 49), none, .mov (.tmp 52)⟩,
  ⟨(some 53), none, .extract (.tmp 49) 0⟩,
  ⟨(some 54), none, .extract (.tmp 49) 1⟩,
  ⟨(some 11), none, .mov (.tmp 53)⟩,
  ⟨(some 12), none, .mov (.tmp 54)⟩] []) (.seq (.reg [
  ⟨(some 56), none, .mov (.tmp 2)⟩,
  ⟨(some 57), none, .conv .i64 (.tmp 56)⟩,
  ⟨(some 58), none, .mov (.tmp 3)⟩,
  ⟨(some 59), none, .conv .i64 (.tmp 58)⟩,
  ⟨(some 60), none, .mov (.tmp 0)⟩,
  ⟨(some 61), none, .build (LV.agg [(LV.int .i64 0), (LV.int .i64 0), (LV.int .i64 0), (LV.str [])]) [(0, (.tmp 57)), (1, (.tmp 59)), (3, (.tmp 60))]⟩,
  ⟨(some 62), none, .mov (.tmp 1)⟩,
  ⟨(some 63), none, .call id_tcp_Bytes [(.tmp 61), (.tmp 62)]⟩,
  ⟨(some 55), none, .mov (.tmp 63)⟩,
  ⟨(some 64), none, .extract (.tmp 55) 0⟩,
  ⟨(some 65), none, .extract (.tmp 55) 1⟩,
  ⟨(some 13), none, .mov (.tmp 64)⟩,
  ⟨(some 14), none, .mov (.tmp 65)⟩] []) (.seq (.reg [
  ⟨(some 67), none, .fieldAddr 0 0 (.tmp 9)⟩,
  ⟨(some 68), none, .load 1 false (.tmp 67)⟩,
  ⟨(some 69), none, .fieldAddr 1 1 (.tmp 9)⟩,
  ⟨(some 70), none, .load 1 false (.tmp 69)⟩,
  ⟨(some 71), none, .mov (.tmp 13)⟩,
  ⟨(some 72), none, .build (LV.agg [(LV.int .i64 0), (LV.int .i64 0), (LV.int .i64 0), (LV.str [])]) [(0, (.tmp 68)), (1, (.tmp 70)), (3, (.tmp 71))]⟩,
  ⟨(some 73), none, .mov (.tmp 1)⟩,
  ⟨(some 74), none, .call id_tcp_Bytes [(.tmp 72), (.tmp 73)]⟩,
  ⟨(some 66), none, .mov (.tmp 74)⟩,
  ⟨(some 75), none, .extract (.tmp 66) 0⟩,
  ⟨(some 76), none, .extract (.tmp 66) 1⟩,
  ⟨(some 15), none, .mov (.tmp 75)⟩,
  ⟨(some 16), none, .mov (.tmp 76)⟩] []) (.seq (.seq (.reg [
  ⟨(some 77), none, .mov (.tmp 12)⟩,
  ⟨(some 78), none, .eqNil 1 true (.tmp 77)⟩,
  ⟨(some 79), none, .mov (.tmp 78)⟩,
  ⟨(some 80), (some (79, false)), .mov (.tmp 14)⟩,
  ⟨(some 81), (some (79, false)), .eqNil 1 true (.tmp 80)⟩,
  ⟨(some 82), none, .pick (.tmp 79) (.cst (LV.bool true)) (.tmp 81)⟩,
  ⟨(some 83), none, .mov (.tmp 82)⟩,
  ⟨(some 84), (some (83, false)), .mov (.tmp 16)⟩,
  ⟨(some 85), (some (83, false)), .eqNil 1 true (.tmp 84)⟩,
  ⟨(some 86), none, .pick (.tmp 83) (.cst (LV.bool true)) (.tmp 85)⟩,
  ⟨(some 87), none, .mov (.tmp 86)⟩,
  ⟨(some 88), (some (87, false)), .mov (.tmp 0)⟩,
  ⟨(some 89), (some (87, false)), .len true (.tmp 88)⟩,
  ⟨(some 90), (some (87, false)), .bin .lss (.tmp 89) (.cst (LV.int .i64 20))⟩,
  ⟨(some 91), none, .pick (.tmp 87) (.cst (LV.bool true)) (.tmp 90)⟩,
  ⟨(some 92), none, .mov (.tmp 91)⟩,
  ⟨(some 93), (some (92, false)), .mov (.tmp 11)⟩,
  ⟨(some 94), (some (92, false)), .len true (.tmp 93)⟩,
  ⟨(some 95), (some (92, false)), .mov (.tmp 0)⟩,
  ⟨(some 96), (some (92, false)), .len true (.tmp 95)⟩,
  ⟨(some 97), (some (92, false)), .bin .neq (.tmp 94) (.tmp 96)⟩,
  ⟨(some 98), none, .pick (.tmp 92) (.cst (LV.bool true)) (.tmp 97)⟩,
  ⟨(some 99), none, .mov (.tmp 98)⟩,
  ⟨(some 100), (some (99, false)), .mov (.tmp 15)⟩,
  ⟨(some 101), (some (99, false)), .mov (.tmp 11)⟩,
  ⟨(some 102), (some (99, false)), .bin .neq (.tmp 100) (.tmp 101)⟩,
  ⟨(some 103), none, .pick (.tmp 99) (.cst (LV.bool true)) (.tmp 102)⟩,
  ⟨(some 104), none, .mov (.tmp 103)⟩,
  ⟨(some 105), (some (104, false)), .mov (.tmp 13)⟩,
  ⟨(some 106), (some (104, false)), .mov (.tmp 1)⟩,
  ⟨(some 107), (some (104, false)), .call id_tcp_Check [(.tmp 105), (.tmp 106)]⟩,
  ⟨(some 108), (some (104, false)), .eqNil 1 true (.tmp 107)⟩,
  ⟨(some 109), none, .pick (.tmp 104) (.cst (LV.bool true)) (.tmp 108)⟩,
  ⟨(some 110), none, .mov (.tmp 109)⟩,
  ⟨(some 111), (some (110, false)), .mov (.tmp 11)⟩,
  ⟨(some 112), (some (110, false)), .slc 0 (.tmp 111) none (some (.cst (LV.int .i64 16)))⟩,
  ⟨(some 113), (some (110, false)), .mov (.tmp 0)⟩,
  ⟨(some 114), (some (110, false)), .slc 0 (.tmp 113) none (some (.cst (LV.int .i64 16)))⟩,
  ⟨(some 115), (some (110, false)), .bin .neq (.tmp 112) (.tmp 114)⟩,
  ⟨(some 116), none, .pick (.tmp 110) (.cst (LV.bool true)) (.tmp 115)⟩,
  ⟨(some 117), none, .mov (.tmp 116)⟩,
  ⟨(some 118), (some (117, false)), .mov (.tmp 11)⟩,
  ⟨(some 119), (some (117, false)), .slc 0 (.tmp 118) (some (.cst (LV.int .i64 18))) none⟩,
  ⟨(some 120), (some (117, false)), .mov (.tmp 0)⟩,
  ⟨(some 121), (some (117, false)), .slc 0 (.tmp 120) (some (.cst (LV.int .i64 18))) none⟩,
  ⟨(some 122), (some (117, false)), .bin .neq (.tmp 119) (.tmp 121)⟩,
  ⟨(some 123), none, .pick (.tmp 117) (.cst (LV.bool true)) (.tmp 122)⟩] []) (.cond (.tmp 123) (.seq (.reg [
  ⟨(some 8), none, .mov (.cst (LV.bool false))⟩] []) .ret) .skip)) (.seq (.reg [
  ⟨(some 124), none, .mov (.tmp 0)⟩,
  ⟨(some 125), none, .mov (.tmp 1)⟩,
  ⟨(some 126), none, .call id_tcp_Check [(.tmp 124), (.tmp 125)]⟩,
  ⟨(some 127), none, .eqNil 1 true (.tmp 126)⟩,
  ⟨(some 128), none, .mov (.tmp 127)⟩,
  ⟨(some 129), (some (128, false)), .mov (.tmp 11)⟩,
  ⟨(some 130), (some (128, false)), .mov (.tmp 0)⟩,
  ⟨(some 131), (some (128, false)), .bin .eql (.tmp 129) (.tmp 130)⟩,
  ⟨(some 132), none, .pick (.tmp 128) (.cst (LV.bool true)) (.tmp 131)⟩,
  ⟨(some 133), none, .mov (.tmp 132)⟩,
  ⟨(some 134), (some (133, false)), .mov (.tmp 0)⟩,
  ⟨(some 135), (some (133, false)), .slc 0 (.tmp 134) (some (.cst (LV.int .i64 16))) (some (.cst (LV.int .i64 18)))⟩,
  ⟨(some 136), (some (133, false)), .bin .eql (.tmp 135) (.cst (LV.str [255, 255]))⟩,
  ⟨(some 137), none, .pick (.tmp 133) (.cst (LV.bool true)) (.tmp 136)⟩,
  ⟨(some 8), none, .mov (.tmp 137)⟩] []) .ret))))))))))), [.tmp 8]⟩
/-- interpreter/interpreterlaw06.TcpMoves -/
def c_interpreterlaw06_TcpMoves : MFn := ⟨3, 134, (.seq (.reg [
  ⟨(some 3), none, .box (.tmp 0)⟩,
  ⟨(some 6), none, .mov (.cst (LV.bool false))⟩] []) (.seq (.seq (.reg [
  ⟨(some 16), none, .call id_interpreterlaw06_awake []⟩,
  ⟨(some 17), none, .un .not (.tmp 16)⟩] []) (.cond (.tmp 17) (.seq (.reg [
  ⟨(some 6), none, .mov (.cst (LV.bool false))⟩] []) .ret) .skip)) (.seq (.seq (.reg [
  ⟨(some 18), none, .fieldAddr 3 3 (.tmp 3)⟩,
  ⟨(some 19), none, .load 1 false (.tmp 18)⟩,
  ⟨(some 20), none, .len true (.tmp 19)⟩,
  ⟨(some 21), none, .bin .gtr (.tmp 20) (.cst (LV.int .i64 3000))⟩,
  ⟨(some 22), none, .mov (.tmp 21)⟩,
  ⟨(some 23), (some (22, false)), .mov (.tmp 1)⟩,
  ⟨(some 24), (some (22, false)), .len true (.tmp 23)⟩,
  ⟨(some 25), (some (22, false)), .bin .gtr (.tmp 24) (.cst (LV.int .i64 100))⟩,
  ⟨(some 26), none, .pick (.tmp 22) (.cst (LV.bool true)) (.tmp 25)⟩,
  ⟨(some 27), none, .mov (.tmp 26)⟩,
  ⟨(some 28), (some (27, false)), .mov (.tmp 2)⟩,
  ⟨(some 29), (some (27, false)), .len true (.tmp 28)⟩,
  ⟨(some 30), (some (27, false)), .bin .gtr (.tmp 29) (.cst (LV.int .i64 100))⟩,
  ⟨(some 31), none, .pick (.tmp 27) (.cst (LV.bool true)) (.tmp 30)⟩] []) (.cond (.tmp 31) (.seq (.reg [
  ⟨(some 6), none, .mov (.cst (LV.bool true))⟩] []) .ret) .skip)) (.seq (.reg [
  ⟨(some 32), none, .mov (.tmp 1)⟩,
  ⟨(some 33), none, .mov (.tmp 1)⟩,
  ⟨(some 34), none, .len true (.tmp 33)⟩,
  ⟨(some 35), none, .bin .quo (.tmp 34) (.cst (LV.int .i64 2))⟩,
  ⟨(some 36), none, .bin .mul (.tmp 35) (.cst (LV.int .i64 2))⟩,
  ⟨(some 37), none, .slc 0 (.tmp 32) none (some (.tmp 36))⟩,
  ⟨(some 1), none, .mov (.tmp 37)⟩] []) (.seq (.reg [
  ⟨(some 38), none, .mov (.tmp 2)⟩,
  ⟨(some 39), none, .mov (.tmp 2)⟩,
  ⟨(some 40), none, .len true (.tmp 39)⟩,
  ⟨(some 41), none, .bin .quo (.tmp 40) (.cst (LV.int .i64 2))⟩,
  ⟨(some 42), none, .bin .mul (.tmp 41) (.cst (LV.int .i64 2))⟩,
  ⟨(some 43), none, .slc 0 (.tmp 38) none (some (.tmp 42))⟩,
  ⟨(some 2), none, .mov (.tmp 43)⟩] []) (.seq (.reg [
  ⟨(some 45), none, .load 4 true (.tmp 3)⟩,
  ⟨(some 46), none, .mov (.tmp 1)⟩,
  ⟨(some 47), none, .call id_tcp_Bytes [(.tmp 45), (.tmp 46)]⟩,
  ⟨(some 44), none, .mov (.tmp 47)⟩,
  ⟨(some 48), none, .extract (.tmp 44) 0⟩,
  ⟨(some 49), none, .extract (.tmp 44) 1⟩,
  ⟨(some 7), none, .mov (.tmp 48)⟩,
  ⟨(some 8), none, .mov (.tmp 49)⟩] []) (.seq (.seq (.reg [
  ⟨(some 50), none, .mov (.tmp 8)⟩,
  ⟨(some 51), none, .eqNil 1 true (.tmp 50)⟩] []) (.cond (.tmp 51) (.seq (.reg [
  ⟨(some 52), none, .mov (.tmp 7)⟩,
  ⟨(some 53), none, .bin .eql (.tmp 52) (.cst (LV.str []))⟩,
  ⟨(some 6), none, .mov (.tmp 53)⟩] []) .ret) .skip)) (.seq (.reg [
  ⟨(some 55), none, .mov (.tmp 7)⟩,
  ⟨(some 56), none, .call id_tcp_Parse [(.tmp 55)]⟩,
  ⟨(some 54), none, .mov (.tmp 56)⟩,
  ⟨(some 57), none, .extract (.tmp 54) 0⟩,
  ⟨(some 58), none, .extract (.tmp 54) 1⟩,
  ⟨(some 9), none, .alloc (LV.agg [(LV.int .i64 0), (LV.int .i64 0), (LV.int .i64 0), (LV.str [])])⟩,
  ⟨none, none, .store 4 true (.tmp 9) (.tmp 57)⟩,
  ⟨(some 10), none, .mov (.tmp 58)⟩] []) (.seq (.reg [
  ⟨(some 60), none, .load 4 true (.tmp 9)⟩,
  ⟨(some 61), none, .mov (.tmp 2)⟩,
  ⟨(some 62), none, .call id_tcp_Bytes [(.tmp 60), (.tmp 61)]⟩,
  ⟨(some 59), none, .mov (.tmp 62)⟩,
  ⟨(some 63), none, .extract (.tmp 59) 0⟩,
  ⟨(some 64), none, .extract (.tmp 59) 1⟩,
  ⟨(some 11), none, .mov (.tmp 63)⟩,
  ⟨(some 12), none, .mov (.tmp 64)⟩] []) (.seq (.seq (.reg [
  ⟨(some 65), none, .mov (.tmp 10)⟩,
  ⟨(some 66), none, .eqNil 1 true (.tmp 65)⟩,
  ⟨(some 67), none, .mov (.tmp 66)⟩,
  ⟨(some 68), (some (67, false)), .mov (.tmp 12)⟩,
  ⟨(some 69), (some (67, false)), .eqNil 1 true (.tmp 68)⟩,
  ⟨(some 70), none, .pick (.tmp 67) (.cst (LV.bool true)) (.tmp 69)⟩,
  ⟨(some 71), none, .mov (.tmp 70)⟩,
  ⟨(some 72), (some (71, false)), .mov (.tmp 7)⟩,
  ⟨(some 73), (some (71, false)), .len true (.tmp 72)⟩,
  ⟨(some 74), (some (71, false)), .bin .lss (.tmp 73) (.cst (LV.int .i64 20))⟩,
  ⟨(some 75), none, .pick (.tmp 71) (.cst (LV.bool true)) (.tmp 74)⟩,
  ⟨(some 76), none, .mov (.tmp 75)⟩,
  ⟨(some 77), (some (76, false)), .mov (.tmp 11)⟩,
  ⟨(some 78), (some (76, false)), .len true (.tmp 77)⟩,
  ⟨(some 79), (some (76, false)), .mov (.tmp 7)⟩,
  ⟨(some 80), (some (76, false)), .len true (.tmp 79)⟩,
  ⟨(some 81), (some (76, false)), .bin .neq (.tmp 78) (.tmp 80)⟩,
  ⟨(some 82), none, .pick (.tmp 76) (.cst (LV.bool true)) (.tmp 81)⟩,
  ⟨(some 83), none, .mov (.tmp 82)⟩,
  ⟨(some 84), (some (83, false)), .mov (.tmp 11)⟩,
  ⟨(some 85), (some (83, false)), .slc 0 (.tmp 84) none (some (.cst (LV.int .i64 16)))⟩,
  ⟨(some 86), (some (83, false)), .mov (.tmp 7)⟩,
  ⟨(some 87), (some (83, false)), .slc 0 (.tmp 86) none (some (.cst (LV.int .i64 16)))⟩,
  ⟨(some 88), (some (83, false)), .bin .neq (.tmp 85) (.tmp 87)⟩,
  ⟨(some 89), none, .pick (.tmp 83) (.cst (LV.bool true)) (.tmp 88)⟩,
  ⟨(some 90), none, .mov (.tmp 89)⟩,
  ⟨(some 91), (some (90, false)), .mov (.tmp 11)⟩,
  ⟨(some 92), (some (90, false)), .slc 0 (.tmp 91) (some (.cst (LV.int .i64 18))) none⟩,
  ⟨(some 93), (some (90, false)), .mov (.tmp 7)⟩,
  ⟨(some 94), (some (90, false)), .slc 0 (.tmp 93) (some (.cst (LV.int .i64 18))) none⟩,
  ⟨(some 95), (some (90, false)), .bin .neq (.tmp 92) (.tmp 94)⟩,
  ⟨(some 96), none, .pick (.tmp 90) (.cst (LV.bool true)) (.tmp 95)⟩] []) (.cond (.tmp 96) (.seq (.reg [
  ⟨(some 6), none, .mov (.cst (LV.bool false))⟩] []) .ret) .skip)) (.seq (.reg [
  ⟨(some 97), none, .mov (.tmp 7)⟩,
  ⟨(some 98), none, .idxStr (.tmp 97) (.cst (LV.int .i64 16))⟩,
  ⟨(some 99), none, .conv .i64 (.tmp 98)⟩,
  ⟨(some 100), none, .bin .mul (.tmp 99) (.cst (LV.int .i64 256))⟩,
  ⟨(some 101), none, .mov (.tmp 7)⟩,
  ⟨(some 102), none, .idxStr (.tmp 101) (.cst (LV.int .i64 17))⟩,
  ⟨(some 103), none, .conv .i64 (.tmp 102)⟩,
  ⟨(some 104), none, .bin .add (.tmp 100) (.tmp 103)⟩,
  ⟨(some 13), none, .mov (.tmp 104)⟩] []) (.seq (.reg [
  ⟨(some 105), none, .mov (.tmp 11)⟩,
  ⟨(some 106), none, .idxStr (.tmp 105) (.cst (LV.int .i64 16))⟩,
  ⟨(some 107), none, .conv .i64 (.tmp 106)⟩,
  ⟨(some 108), none, .bin .mul (.tmp 107) (.cst (LV.int .i64 256))⟩,
  ⟨(some 109), none, .mov (.tmp 11)⟩,
  ⟨(some 110), none, .idxStr (.tmp 109) (.cst (LV.int .i64 17))⟩,
  ⟨(some 111), none, .conv .i64 (.tmp 110)⟩,
  ⟨(some 112), none, .bin .add (.tmp 108) (.tmp 111)⟩,
  ⟨(some 14), none, .mov (.tmp 112)⟩] []) (.seq (.reg [
  ⟨(some 113), none, .mov (.tmp 13)⟩,
  ⟨(some 114), none, .mov (.tmp 1)⟩,
  ⟨(some 115), none, .mov (.tmp 2)⟩,
  ⟨(some 116), none, .call id_sum_Update [(.tmp 113), (.tmp 114), (.tmp 115)]⟩,
  ⟨(some 15), none, .mov (.tmp 116)⟩] []) (.seq (.reg [
  ⟨(some 117), none, .mov (.tmp 15)⟩,
  ⟨(some 118), none, .mov (.tmp 14)⟩,
  ⟨(some 119), none, .bin .eql (.tmp 117) (.tmp 118)⟩,
  ⟨(some 120), none, .mov (.tmp 119)⟩,
  ⟨(some 121), (some (120, false)), .mov (.tmp 15)⟩,
  ⟨(some 122), (some (120, false)), .mov (.tmp 14)⟩,
  ⟨(some 123), (some (120, false)), .bin .add (.tmp 121) (.tmp 122)⟩,
  ⟨(some 124), (some (120, false)), .bin .eql (.tmp 123) (.cst (LV.int .i64 65535))⟩,
  ⟨(some 125), (some (120, false)), .mov (.tmp 124)⟩,
  ⟨(some 126), (some (125, true)), .mov (.tmp 15)⟩,
  ⟨(some 127), (some (125, true)), .bin .eql (.tmp 126) (.cst (LV.int .i64 0))⟩,
  ⟨(some 128), (some (125, true)), .mov (.tmp 127)⟩,
  ⟨(some 129), (some (128, false)), .mov (.tmp 14)⟩,
  ⟨(some 130), (some (128, false)), .bin .eql (.tmp 129) (.cst (LV.int .i64 0))⟩,
  ⟨(some 131), (some (125, true)), .pick (.tmp 128) (.cst (LV.bool true)) (.tmp 130)⟩,
  ⟨(some 132), (some (120, false)), .pick (.tmp 125) (.tmp 131) (.cst (LV.bool false))⟩,
  ⟨(some 133), none, .pick (.tmp 120) (.cst (LV.bool true)) (.tmp 132)⟩,
  ⟨(some 6), none, .mov (.tmp 133)⟩] []) .ret)))))))))))))), [.tmp 6]⟩
/-- interpreter/interpreterlaw05.UdpKnown -/
def c_interpreterlaw05_UdpKnown : MFn := ⟨0, 63, (.seq (.reg [
  ⟨(some 0), none, .mov (.cst (LV.bool false))⟩] []) (.seq (.reg [
  ⟨(some 13), none, .call id_udp_Parse [(.cst (LV.str [49, 50, 51, 52, 53, 54, 55]))]⟩,
  ⟨(some 12), none, .mov (.tmp 13)⟩,
  ⟨(some 14), none, .extract (.tmp 12) 0⟩,
  ⟨(some 15), none, .extract (.tmp 12) 1⟩,
  ⟨(some 1), none, .alloc (LV.agg [(LV.int .i64 0), (LV.int .i64 0), (LV.int .i64 0), (LV.str [])])⟩,
  ⟨none, none, .store 4 true (.tmp 1) (.tmp 14)⟩,
  ⟨(some 2), none, .mov (.tmp 15)⟩] []) (.seq (.reg [
  ⟨(some 17), none, .call id_udp_Parse [(.cst (LV.str [0, 1, 0, 2, 0, 9, 0, 0]))]⟩,
  ⟨(some 16), none, .mov (.tmp 17)⟩,
  ⟨(some 18), none, .extract (.tmp 16) 0⟩,
  ⟨(some 19), none, .extract (.tmp 16) 1⟩,
  ⟨(some 3), none, .alloc (LV.agg [(LV.int .i64 0), (LV.int .i64 0), (LV.int .i64 0), (LV.str [])])⟩,
  ⟨none, none, .store 4 true (.tmp 3) (.tmp 18)⟩,
  ⟨(some 4), none, .mov (.tmp 19)⟩] []) (.seq (.reg [
  ⟨(some 20), none, .call id_udp_Check [(.cst (LV.str [0, 1, 0, 2, 0, 8, 0, 0])), (.cst (LV.str []))]⟩,
  ⟨(some 5), none, .mov (.tmp 20)⟩] []) (.seq (.reg [
  ⟨(some 22), none, .call id_strings_Repeat [(.cst (LV.str [120])), (.cst (LV.int .i64 65528))]⟩,
  ⟨(some 23), none, .build (LV.agg [(LV.int .i64 0), (LV.int .i64 0), (LV.int .i64 0), (LV.str [])]) [(3, (.tmp 22))]⟩,
  ⟨(some 24), none, .call id_udp_Bytes [(.tmp 23), (.cst (LV.str []))]⟩,
  ⟨(some 21), none, .mov (.tmp 24)⟩,
  ⟨(some 25), none, .extract (.tmp 21) 0⟩,
  ⟨(some 26), none, .extract (.tmp 21) 1⟩,
  ⟨(some 6), none, .mov (.tmp 25)⟩,
  ⟨(some 7), none, .mov (.tmp 26)⟩] []) (.seq (.reg [
  ⟨(some 28), none, .call id_strings_Repeat [(.cst (LV.str [120])), (.cst (LV.int .i64 65527))]⟩,
  ⟨(some 29), none, .build (LV.agg [(LV.int .i64 0), (LV.int .i64 0), (LV.int .i64 0), (LV.str [])]) [(3, (.tmp 28))]⟩,
  ⟨(some 30), none, .call id_udp_Bytes [(.tmp 29), (.cst (LV.str []))]⟩,
  ⟨(some 27), none, .mov (.tmp 30)⟩,
  ⟨(some 31), none, .extract (.tmp 27) 0⟩,
  ⟨(some 32), none, .extract (.tmp 27) 1⟩,
  ⟨(some 8), none, .mov (.tmp 31)⟩,
  ⟨(some 9), none, .mov (.tmp 32)⟩] []) (.seq (.reg [
  ⟨(some 34), none, .build (LV.agg [(LV.int .i64 0), (LV.int .i64 0), (LV.int .i64 0), (LV.str [])]) [(1, (.cst (LV.int .i64 65536)))]⟩,
  ⟨(some 35), none, .call id_udp_Bytes [(.tmp 34), (.cst (LV.str []))]⟩,
  ⟨(some 33), none, .mov (.tmp 35)⟩,
  ⟨(some 36), none, .extract (.tmp 33) 0⟩,
  ⟨(some 37), none, .extract (.tmp 33) 1⟩,
  ⟨(some 10), none, .mov (.tmp 36)⟩,
  ⟨(some 11), none, .mov (.tmp 37)⟩] []) (.seq (.reg [
  ⟨(some 38), none, .call id_interpreterlaw05_awake []⟩,
  ⟨(some 39), none, .mov (.tmp 38)⟩,
  ⟨(some 40), (some (39, true)), .mov (.tmp 2)⟩,
  ⟨(some 41), (some (39, true)), .call id_interpreterlaw05_same [(.tmp 40), (.cst (LV.int .i64 7))]⟩,
  ⟨(some 42), none, .pick (.tmp 39) (.tmp 41) (.cst (LV.bool false))⟩,
  ⟨(some 43), none, .mov (.tmp 42)⟩,
  ⟨(some 44), (some (43, true)), .mov (.tmp 4)⟩,
  ⟨(some 45), (some (43, true)), .call id_interpreterlaw05_same [(.tmp 44), (.cst (LV.int .i64 8))]⟩,
  ⟨(some 46), none, .pick (.tmp 43) (.tmp 45) (.cst (LV.bool false))⟩,
  ⟨(some 47), none, .mov (.tmp 46)⟩,
  ⟨(some 48), (some (47, true)), .mov (.tmp 5)⟩,
  ⟨(some 49), (some (47, true)), .call id_interpreterlaw05_same [(.tmp 48), (.cst (LV.int .i64 4))]⟩,
  ⟨(some 50), none, .pick (.tmp 47) (.tmp 49) (.cst (LV.bool false))⟩,
  ⟨(some 51), none, .mov (.tmp 50)⟩,
  ⟨(some 52), (some (51, true)), .mov (.tmp 7)⟩,
  ⟨(some 53), (some (51, true)), .call id_interpreterlaw05_same [(.tmp 52), (.cst (LV.int .i64 3))]⟩,
  ⟨(some 54), none, .pick (.tmp 51) (.tmp 53) (.cst (LV.bool false))⟩,
  ⟨(some 55), none, .mov (.tmp 54)⟩,
  ⟨(some 56), (some (55, true)), .mov (.tmp 9)⟩,
  ⟨(some 57), (some (55, true)), .eqNil 1 false (.tmp 56)⟩,
  ⟨(some 58), none, .pick (.tmp 55) (.tmp 57) (.cst (LV.bool false))⟩,
  ⟨(some 59), none, .mov (.tmp 58)⟩,
  ⟨(some 60), (some (59, true)), .mov (.tmp 11)⟩,
  ⟨(some 61), (some (59, true)), .call id_interpreterlaw05_same [(.tmp 60), (.cst (LV.int .i64 13))]⟩,
  ⟨(some 62), none, .pick (.tmp 59) (.tmp 61) (.cst (LV.bool false))⟩,
  ⟨(some 0), none, .mov (.tmp 62)⟩] []) .ret)))))))), [.tmp 0]⟩
/-- interpreter/interpreterlaw05.awake -/
def c_interpreterlaw05_awake : MFn := ⟨0, 30, (.seq (.reg [
  ⟨(some 0), none, .mov (.cst (LV.bool false))⟩] []) (.seq (.reg [
  ⟨(some 6), none, .build (LV.agg [(LV.int .i64 0), (LV.int .i64 0), (LV.int .i64 0), (LV.str [])]) [(0, (.cst (LV.int .i64 1))), (1, (.cst (LV.int .i64 2))), (3, (.cst (LV.str [104, 105])))]⟩,
  ⟨(some 7), none, .call id_udp_Bytes [(.tmp 6), (.cst (LV.str []))]⟩,
  ⟨(some 5), none, .mov (.tmp 7)⟩,
  ⟨(some 8), none, .extract (.tmp 5) 0⟩,
  ⟨(some 9), none, .extract (.tmp 5) 1⟩,
  ⟨(some 1), none, .mov (.tmp 8)⟩,
  ⟨(some 2), none, .mov (.tmp 9)⟩] []) (.seq (.reg [
  ⟨(some 11), none, .mov (.tmp 1)⟩,
  ⟨(some 12), none, .call id_udp_Parse [(.tmp 11)]⟩,
  ⟨(some 10), none, .mov (.tmp 12)⟩,
  ⟨(some 13), none, .extract (.tmp 10) 0⟩,
  ⟨(some 14), none, .extract (.tmp 10) 1⟩,
  ⟨(some 3), none, .alloc (LV.agg [(LV.int .i64 0), (LV.int .i64 0), (LV.int .i64 0), (LV.str [])])⟩,
  ⟨none, none, .store 4 true (.tmp 3) (.tmp 13)⟩,
  ⟨(some 4), none, .mov (.tmp 14)⟩] []) (.seq (.reg [
  ⟨(some 15), none, .mov (.tmp 2)⟩,
  ⟨(some 16), none, .eqNil 1 false (.tmp 15)⟩,
  ⟨(some 17), none, .mov (.tmp 16)⟩,
  ⟨(some 18), (some (17, true)), .mov (.tmp 4)⟩,
  ⟨(some 19), (some (17, true)), .eqNil 1 false (.tmp 18)⟩,
  ⟨(some 20), none, .pick (.tmp 17) (.tmp 19) (.cst (LV.bool false))⟩,
  ⟨(some 21), none, .mov (.tmp 20)⟩,
  ⟨(some 22), (some (21, true)), .mov (.tmp 1)⟩,
  ⟨(some 23), (some (21, true)), .bin .eql (.tmp 22) (.cst (LV.str [0, 1, 0, 2, 0, 10, 151, 137, 104, 105]))⟩,
  ⟨(some 24), none, .pick (.tmp 21) (.tmp 23) (.cst (LV.bool false))⟩,
  ⟨(some 25), none, .mov (.tmp 24)⟩,
  ⟨(some 26), (some (25, true)), .load 4 true (.tmp 3)⟩,
  ⟨(some 27), (some (25, true)), .build (LV.agg [(LV.int .i64 0), (LV.int .i64 0), (LV.int .i64 0), (LV.str [])]) [(0, (.cst (LV.int .i64 1))), (1, (.cst (LV.int .i64 2))), (2, (.cst (LV.int .i64 38793))), (3, (.cst (LV.str [104, 105])))]⟩,
  ⟨(some 28), (some (25, true)), .eqS (Sh.agg [(Sh.int .i64), (Sh.int .i64), (Sh.int .i64), Sh.str]) false (.tmp 26) (.tmp 27)⟩,
  ⟨(some 29), none, .pick (.tmp 25) (.tmp 28) (.cst (LV.bool false))⟩,
  ⟨(some 0), none, .mov (.tmp 29)⟩] []) .ret)))), [.tmp 0]⟩
/-- interpreter/udp.Bytes -/
def c_udp_Bytes : MFn := ⟨2, 67, (.seq (.reg [
  ⟨(some 2), none, .box (.tmp 0)⟩,
  ⟨(some 4), none, .mov (.cst (LV.str []))⟩,
  ⟨(some 5), none, .mov (.cst LV.nili)⟩] []) (.seq (.reg [
  ⟨(some 13), none, .fieldAddr 0 0 (.tmp 2)⟩,
  ⟨(some 14), none, .load 1 false (.tmp 13)⟩,
  ⟨(some 15), none, .call id_num_Big [(.tmp 14), (.cst (LV.int .i64 2))]⟩,
  ⟨(some 12), none, .mov (.tmp 15)⟩,
  ⟨(some 16), none, .extract (.tmp 12) 0⟩,
  ⟨(some 17), none, .extract (.tmp 12) 1⟩,
  ⟨(some 6), none, .mov (.tmp 16)⟩,
  ⟨(some 7), none, .mov (.tmp 17)⟩] []) (.seq (.seq (.reg [
  ⟨(some 18), none, .mov (.tmp 7)⟩,
  ⟨(some 19), none, .eqNil 1 true (.tmp 18)⟩] []) (.cond (.tmp 19) (.seq (.reg [
  ⟨(some 20), none, .mov (.tmp 7)⟩,
  ⟨(some 4), none, .mov (.cst (LV.str []))⟩,
  ⟨(some 5), none, .mov (.tmp 20)⟩] []) .ret) .skip)) (.seq (.reg [
  ⟨(some 22), none, .fieldAddr 1 1 (.tmp 2)⟩,
  ⟨(some 23), none, .load 1 false (.tmp 22)⟩,
  ⟨(some 24), none, .call id_num_Big [(.tmp 23), (.cst (LV.int .i64 2))]⟩,
  ⟨(some 21), none, .mov (.tmp 24)⟩,
  ⟨(some 25), none, .extract (.tmp 21) 0⟩,
  ⟨(some 26), none, .extract (.tmp 21) 1⟩,
  ⟨(some 8), none, .mov (.tmp 25)⟩,
  ⟨(some 7), none, .mov (.tmp 26)⟩] []) (.seq (.seq (.reg [
  ⟨(some 27), none, .mov (.tmp 7)⟩,
  ⟨(some 28), none, .eqNil 1 true (.tmp 27)⟩] []) (.cond (.tmp 28) (.seq (.reg [
  ⟨(some 29), none, .mov (.tmp 7)⟩,
  ⟨(some 4), none, .mov (.cst (LV.str []))⟩,
  ⟨(some 5), none, .mov (.tmp 29)⟩] []) .ret) .skip)) (.seq (.reg [
  ⟨(some 31), none, .fieldAddr 3 3 (.tmp 2)⟩,
  ⟨(some 32), none, .load 1 false (.tmp 31)⟩,
  ⟨(some 33), none, .len true (.tmp 32)⟩,
  ⟨(some 34), none, .bin .add (.cst (LV.int .i64 8)) (.tmp 33)⟩,
  ⟨(some 35), none, .call id_num_Big [(.tmp 34), (.cst (LV.int .i64 2))]⟩,
  ⟨(some 30), none, .mov (.tmp 35)⟩,
  ⟨(some 36), none, .extract (.tmp 30) 0⟩,
  ⟨(some 37), none, .extract (.tmp 30) 1⟩,
  ⟨(some 9), none, .mov (.tmp 36)⟩,
  ⟨(some 7), none, .mov (.tmp 37)⟩] []) (.seq (.seq (.reg [
  ⟨(some 38), none, .mov (.tmp 7)⟩,
  ⟨(some 39), none, .eqNil 1 true (.tmp 38)⟩] []) (.cond (.tmp 39) (.seq (.reg [
  ⟨(some 40), none, .call id_udp_fault [(.cst (LV.int .i64 3))]⟩,
  ⟨(some 4), none, .mov (.cst (LV.str []))⟩,
  ⟨(some 5), none, .mov (.tmp 40)⟩] []) .ret) .skip)) (.seq (.reg [
  ⟨(some 41), none, .mov (.tmp 1)⟩,
  ⟨(some 42), none, .mov (.tmp 6)⟩,
  ⟨(some 43), none, .mov (.tmp 8)⟩,
  ⟨(some 44), none, .mov (.tmp 9)⟩,
  ⟨(some 45), none, .fieldAddr 3 3 (.tmp 2)⟩,
  ⟨(some 46), none, .load 1 false (.tmp 45)⟩,
  ⟨(some 47), none, .bsl (LV.str []) 6 [(0, (.tmp 41)), (1, (.tmp 42)), (2, (.tmp 43)), (3, (.tmp 44)), (4, (.cst (LV.str [0, 0]))), (5, (.tmp 46))]⟩,
  ⟨(some 48), none, .call id_sum_Of [(.tmp 47)]⟩,
  ⟨(some 10), none, .mov (.tmp 48)⟩] []) (.seq (.seq (.reg [
  ⟨(some 49), none, .mov (.tmp 10)⟩,
  ⟨(some 50), none, .bin .eql (.tmp 49) (.cst (LV.int .i64 0))⟩] []) (.cond (.tmp 50) (.reg [
  ⟨(some 10), none, .mov (.cst (LV.int .i64 65535))⟩] []) .skip)) (.seq (.reg [
  ⟨(some 52), none, .mov (.tmp 10)⟩,
  ⟨(some 53), none, .call id_num_Big [(.tmp 52), (.cst (LV.int .i64 2))]⟩,
  ⟨(some 51), none, .mov (.tmp 53)⟩,
  ⟨(some 54), none, .extract (.tmp 51) 0⟩,
  ⟨(some 55), none, .extract (.tmp 51) 1⟩,
  ⟨(some 11), none, .mov (.tmp 54)⟩,
  ⟨(some 7), none, .mov (.tmp 55)⟩] []) (.seq (.reg [
  ⟨(some 56), none, .mov (.tmp 6)⟩,
  ⟨(some 57), none, .mov (.tmp 8)⟩,
  ⟨(some 58), none, .bin .add (.tmp 56) (.tmp 57)⟩,
  ⟨(some 59), none, .mov (.tmp 9)⟩,
  ⟨(some 60), none, .bin .add (.tmp 58) (.tmp 59)⟩,
  ⟨(some 61), none, .mov (.tmp 11)⟩,
  ⟨(some 62), none, .bin .add (.tmp 60) (.tmp 61)⟩,
  ⟨(some 63), none, .fieldAddr 3 3 (.tmp 2)⟩,
  ⟨(some 64), none, .load 1 false (.tmp 63)⟩,
  ⟨(some 65), none, .bin .add (.tmp 62) (.tmp 64)⟩,
  ⟨(some 66), none, .mov (.tmp 7)⟩,
  ⟨(some 4), none, .mov (.tmp 65)⟩,
  ⟨(some 5), none, .mov (.tmp 66)⟩] []) .ret))))))))))), [.tmp 4, .tmp 5]⟩
/-- interpreter/interpreterref05.Bytes -/
def c_interpreterref05_Bytes : MFn := ⟨2, 61, (.seq (.reg [
  ⟨(some 2), none, .box (.tmp 0)⟩,
  ⟨(some 4), none, .mov (.cst (LV.str []))⟩,
  ⟨(some 5), none, .mov (.cst (LV.int .i64 0))⟩] []) (.seq (.seq (.reg [
  ⟨(some 8), none, .fieldAddr 0 0 (.tmp 2)⟩,
  ⟨(some 9), none, .load 1 false (.tmp 8)⟩,
  ⟨(some 10), none, .bin .lss (.tmp 9) (.cst (LV.int .i64 0))⟩,
  ⟨(some 11), none, .mov (.tmp 10)⟩,
  ⟨(some 12), (some (11, false)), .fieldAddr 0 0 (.tmp 2)⟩,
  ⟨(some 13), (some (11, false)), .load 1 false (.tmp 12)⟩,
  ⟨(some 14), (some (11, false)), .bin .gtr (.tmp 13) (.cst (LV.int .i64 65535))⟩,
  ⟨(some 15), none, .pick (.tmp 11) (.cst (LV.bool true)) (.tmp 14)⟩,
  ⟨(some 16), none, .mov (.tmp 15)⟩,
  ⟨(some 17), (some (16, false)), .fieldAddr 1 1 (.tmp 2)⟩,
  ⟨(some 18), (some (16, false)), .load 1 false (.tmp 17)⟩,
  ⟨(some 19), (some (16, false)), .bin .lss (.tmp 18) (.cst (LV.int .i64 0))⟩,
  ⟨(some 20), none, .pick (.tmp 16) (.cst (LV.bool true)) (.tmp 19)⟩,
  ⟨(some 21), none, .mov (.tmp 20)⟩,
  ⟨(some 22), (some (21, false)), .fieldAddr 1 1 (.tmp 2)⟩,
  ⟨(some 23), (some (21, false)), .load 1 false (.tmp 22)⟩,
  ⟨(some 24), (some (21, false)), .bin .gtr (.tmp 23) (.cst (LV.int .i64 65535))⟩,
  ⟨(some 25), none, .pick (.tmp 21) (.cst (LV.bool true)) (.tmp 24)⟩] []) (.cond (.tmp 25) (.seq (.reg [
  ⟨(some 4), none, .mov (.cst (LV.str []))⟩,
  ⟨(some 5), none, .mov (.cst (LV.int .i64 13))⟩] []) .ret) .skip)) (.seq (.seq (.reg [
  ⟨(some 26), none, .fieldAddr 3 3 (.tmp 2)⟩,
  ⟨(some 27), none, .load 1 false (.tmp 26)⟩,
  ⟨(some 28), none, .len true (.tmp 27)⟩,
  ⟨(some 29), none, .bin .gtr (.tmp 28) (.cst (LV.int .i64 65527))⟩] []) (.cond (.tmp 29) (.seq (.reg [
  ⟨(some 4), none, .mov (.cst (LV.str []))⟩,
  ⟨(some 5), none, .mov (.cst (LV.int .i64 3))⟩] []) .ret) .skip)) (.seq (.reg [
  ⟨(some 30), none, .fieldAddr 0 0 (.tmp 2)⟩,
  ⟨(some 31), none, .load 1 false (.tmp 30)⟩,
  ⟨(some 32), none, .call id_interpreterref05_two [(.tmp 31)]⟩,
  ⟨(some 33), none, .fieldAddr 1 1 (.tmp 2)⟩,
  ⟨(some 34), none, .load 1 false (.tmp 33)⟩,
  ⟨(some 35), none, .call id_interpreterref05_two [(.tmp 34)]⟩,
  ⟨(some 36), none, .bin .add (.tmp 32) (.tmp 35)⟩,
  ⟨(some 37), none, .fieldAddr 3 3 (.tmp 2)⟩,
  ⟨(some 38), none, .load 1 false (.tmp 37)⟩,
  ⟨(some 39), none, .len true (.tmp 38)⟩,
  ⟨(some 40), none, .bin .add (.cst (LV.int .i64 8)) (.tmp 39)⟩,
  ⟨(some 41), none, .call id_interpreterref05_two [(.tmp 40)]⟩,
  ⟨(some 42), none, .bin .add (.tmp 36) (.tmp 41)⟩,
  ⟨(some 6), none, .mov (.tmp 42)⟩] []) (.seq (.reg [
  ⟨(some 43), none, .mov (.tmp 1)⟩,
  ⟨(some 44), none, .mov (.tmp 6)⟩,
  ⟨(some 45), none, .bin .add (.tmp 43) (.tmp 44)⟩,
  ⟨(some 46), none, .call id_interpreterref05_two [(.cst (LV.int .i64 0))]⟩,
  ⟨(some 47), none, .bin .add (.tmp 45) (.tmp 46)⟩,
  ⟨(some 48), none, .fieldAddr 3 3 (.tmp 2)⟩,
  ⟨(some 49), none, .load 1 false (.tmp 48)⟩,
  ⟨(some 50), none, .bin .add (.tmp 47) (.tmp 49)⟩,
  ⟨(some 51), none, .call id_interpreterref02_Of [(.tmp 50)]⟩,
  ⟨(some 7), none, .mov (.tmp 51)⟩] []) (.seq (.seq (.reg [
  ⟨(some 52), none, .mov (.tmp 7)⟩,
  ⟨(some 53), none, .bin .eql (.tmp 52) (.cst (LV.int .i64 0))⟩] []) (.cond (.tmp 53) (.reg [
  ⟨(some 7), none, .mov (.cst (LV.int .i64 65535))⟩] []) .skip)) (.seq (.reg [
  ⟨(some 54), none, .mov (.tmp 6)⟩,
  ⟨(some 55), none, .mov (.tmp 7)⟩,
  ⟨(some 56), none, .call id_interpreterref05_two [(.tmp 55)]⟩,
  ⟨(some 57), none, .bin .add (.tmp 54) (.tmp 56)⟩,
  ⟨(some 58), none, .fieldAddr 3 3 (.tmp 2)⟩,
  ⟨(some 59), none, .load 1 false (.tmp 58)⟩,
  ⟨(some 60), none, .bin .add (.tmp 57) (.tmp 59)⟩,
  ⟨(some 4), none, .mov (.tmp 60)⟩,
  ⟨(some 5), none, .mov (.cst (LV.int .i64 0))⟩] []) .ret))))))), [.tmp 4, .tmp 5]⟩
/-- interpreter/interpreterlaw05.same -/
def c_interpreterlaw05_same : MFn := ⟨2, 36, (.seq (.reg [
  ⟨(some 4), none, .mov (.cst (LV.bool false))⟩] []) (.seq (.seq (.reg [
  ⟨(some 7), none, .mov (.tmp 1)⟩,
  ⟨(some 8), none, .bin .eql (.tmp 7) (.cst (LV.int .i64 0))⟩] []) (.cond (.tmp 8) (.seq (.reg [
  ⟨(some 9), none, .mov (.tmp 0)⟩,
  ⟨(some 10), none, .eqNil 1 false (.tmp 9)⟩,
  ⟨(some 4), none, .mov (.tmp 10)⟩] []) .ret) .skip)) (.seq (.reg [
  ⟨(some 12), none, .mov (.tmp 0)⟩,
  ⟨(some 13), none, .assert ty_ptr_num_Fault true LV.nilp (.tmp 12)⟩,
  ⟨(some 11), none, .mov (.tmp 13)⟩,
  ⟨(some 14), none, .extract (.tmp 11) 0⟩,
  ⟨(some 15), none, .extract (.tmp 11) 1⟩,
  ⟨(some 5), none, .mov (.tmp 14)⟩,
  ⟨(some 6), none, .mov (.tmp 15)⟩] []) (.seq (.reg [
  ⟨(some 16), none, .mov (.tmp 6)⟩,
  ⟨(some 17), none, .mov (.tmp 16)⟩,
  ⟨(some 18), (some (17, true)), .mov (.tmp 5)⟩,
  ⟨(some 19), (some (17, true)), .eqNil 0 true (.tmp 18)⟩,
  ⟨(some 20), none, .pick (.tmp 17) (.tmp 19) (.cst (LV.bool false))⟩,
  ⟨(some 21), none, .mov (.tmp 20)⟩,
  ⟨(some 22), (some (21, true)), .mov (.tmp 5)⟩,
  ⟨(some 23), (some (21, true)), .nilCheck (.tmp 22)⟩,
  ⟨(some 24), (some (21, true)), .fieldAddr 0 0 (.tmp 23)⟩,
  ⟨(some 25), (some (21, true)), .load 1 false (.tmp 24)⟩,
  ⟨(some 26), (some (21, true)), .mov (.tmp 1)⟩,
  ⟨(some 27), (some (21, true)), .bin .eql (.tmp 25) (.tmp 26)⟩,
  ⟨(some 28), none, .pick (.tmp 21) (.tmp 27) (.cst (LV.bool false))⟩,
  ⟨(some 29), none, .mov (.tmp 28)⟩,
  ⟨(some 30), (some (29, true)), .mov (.tmp 5)⟩,
  ⟨(some 31), (some (29, true)), .nilCheck (.tmp 30)⟩,
  ⟨(some 32), (some (29, true)), .fieldAddr 1 1 (.tmp 31)⟩,
  ⟨(some 33), (some (29, true)), .load 1 false (.tmp 32)⟩,
  ⟨(some 34), (some (29, true)), .bin .eql (.tmp 33) (.cst (LV.int .i64 0))⟩,
  ⟨(some 35), none, .pick (.tmp 29) (.tmp 34) (.cst (LV.bool false))⟩,
  ⟨(some 4), none, .mov (.tmp 35)⟩] []) .ret)))), [.tmp 4]⟩
/-- interpreter/udp.Parse -/
def c_udp_Parse : MFn := ⟨1, 27, (.seq (.reg [
  ⟨(some 2), none, .alloc (LV.agg [(LV.int .i64 0), (LV.int .i64 0), (LV.int .i64 0), (LV.str [])])⟩,
  ⟨(some 3), none, .mov (.cst LV.nili)⟩] []) (.seq (.block 0 (.seq (.reg [
  ⟨(some 5), none, .mov (.tmp 0)⟩,
  ⟨(some 6), none, .len true (.tmp 5)⟩,
  ⟨(some 7), none, .bin .lss (.tmp 6) (.cst (LV.int .i64 8))⟩,
  ⟨(some 4), none, .mov (.tmp 7)⟩] []) (.cond (.tmp 4) (.seq (.reg [
  ⟨(some 8), none, .build (LV.agg [(LV.int .i64 0), (LV.int .i64 0), (LV.int .i64 0), (LV.str [])]) []⟩,
  ⟨(some 9), none, .call id_udp_fault [(.cst (LV.int .i64 7))]⟩,
  ⟨none, none, .store 4 true (.tmp 2) (.tmp 8)⟩,
  ⟨(some 3), none, .mov (.tmp 9)⟩] []) .ret) (.seq (.reg [
  ⟨(some 11), none, .mov (.tmp 0)⟩,
  ⟨(some 12), none, .call id_udp_two [(.tmp 11), (.cst (LV.int .i64 4))]⟩,
  ⟨(some 13), none, .mov (.tmp 0)⟩,
  ⟨(some 14), none, .len true (.tmp 13)⟩,
  ⟨(some 15), none, .bin .neq (.tmp 12) (.tmp 14)⟩,
  ⟨(some 10), none, .mov (.tmp 15)⟩] []) (.cond (.tmp 10) (.seq (.reg [
  ⟨(some 16), none, .build (LV.agg [(LV.int .i64 0), (LV.int .i64 0), (LV.int .i64 0), (LV.str [])]) []⟩,
  ⟨(some 17), none, .call id_udp_fault [(.cst (LV.int .i64 8))]⟩,
  ⟨none, none, .store 4 true (.tmp 2) (.tmp 16)⟩,
  ⟨(some 3), none, .mov (.tmp 17)⟩] []) .ret) .skip))))) (.seq (.reg [
  ⟨(some 18), none, .mov (.tmp 0)⟩,
  ⟨(some 19), none, .call id_udp_two [(.tmp 18), (.cst (LV.int .i64 0))]⟩,
  ⟨(some 20), none, .mov (.tmp 0)⟩,
  ⟨(some 21), none, .call id_udp_two [(.tmp 20), (.cst (LV.int .i64 2))]⟩,
  ⟨(some 22), none, .mov (.tmp 0)⟩,
  ⟨(some 23), none, .call id_udp_two [(.tmp 22), (.cst (LV.int .i64 6))]⟩,
  ⟨(some 24), none, .mov (.tmp 0)⟩,
  ⟨(some 25), none, .slc 0 (.tmp 24) (some (.cst (LV.int .i64 8))) none⟩,
  ⟨(some 26), none, .build (LV.agg [(LV.int .i64 0), (LV.int .i64 0), (LV.int .i64 0), (LV.str [])]) [(0, (.tmp 19)), (1, (.tmp 21)), (2, (.tmp 23)), (3, (.tmp 25))]⟩,
  ⟨none, none, .store 4 true (.tmp 2) (.tmp 26)⟩,
  ⟨(some 3), none, .mov (.cst LV.nili)⟩] []) .ret))), [.cell 2 4 true, .tmp 3]⟩
/-- interpreter/interpreterref05.Parse -/
def c_interpreterref05_Parse : MFn := ⟨1, 31, (.seq (.reg [
  ⟨(some 2), none, .alloc (LV.agg [(LV.int .i64 0), (LV.int .i64 0), (LV.int .i64 0), (LV.str [])])⟩,
  ⟨(some 3), none, .mov (.cst (LV.int .i64 0))⟩] []) (.seq (.seq (.reg [
  ⟨(some 5), none, .mov (.tmp 0)⟩,
  ⟨(some 6), none, .len true (.tmp 5)⟩,
  ⟨(some 7), none, .bin .lss (.tmp 6) (.cst (LV.int .i64 8))⟩] []) (.cond (.tmp 7) (.seq (.reg [
  ⟨(some 8), none, .build (LV.agg [(LV.int .i64 0), (LV.int .i64 0), (LV.int .i64 0), (LV.str [])]) []⟩,
  ⟨none, none, .store 4 true (.tmp 2) (.tmp 8)⟩,
  ⟨(some 3), none, .mov (.cst (LV.int .i64 7))⟩] []) .ret) .skip)) (.seq (.reg [
  ⟨(some 9), none, .mov (.tmp 0)⟩,
  ⟨(some 10), none, .slc 0 (.tmp 9) none (some (.cst (LV.int .i64 8)))⟩,
  ⟨(some 11), none, .call id_interpreterref02_Words [(.tmp 10)]⟩,
  ⟨(some 4), none, .mov (.tmp 11)⟩] []) (.seq (.seq (.reg [
  ⟨(some 12), none, .mov (.tmp 4)⟩,
  ⟨(some 13), none, .idxAddr none 1 (.tmp 12) (.cst (LV.int .i64 2))⟩,
  ⟨(some 14), none, .load 1 false (.tmp 13)⟩,
  ⟨(some 15), none, .mov (.tmp 0)⟩,
  ⟨(some 16), none, .len true (.tmp 15)⟩,
  ⟨(some 17), none, .bin .neq (.tmp 14) (.tmp 16)⟩] []) (.cond (.tmp 17) (.seq (.reg [
  ⟨(some 18), none, .build (LV.agg [(LV.int .i64 0), (LV.int .i64 0), (LV.int .i64 0), (LV.str [])]) []⟩,
  ⟨none, none, .store 4 true (.tmp 2) (.tmp 18)⟩,
  ⟨(some 3), none, .mov (.cst (LV.int .i64 8))⟩] []) .ret) .skip)) (.seq (.reg [
  ⟨(some 19), none, .mov (.tmp 4)⟩,
  ⟨(some 20), none, .idxAddr none 1 (.tmp 19) (.cst (LV.int .i64 0))⟩,
  ⟨(some 21), none, .load 1 false (.tmp 20)⟩,
  ⟨(some 22), none, .mov (.tmp 4)⟩,
  ⟨(some 23), none, .idxAddr none 1 (.tmp 22) (.cst (LV.int .i64 1))⟩,
  ⟨(some 24), none, .load 1 false (.tmp 23)⟩,
  ⟨(some 25), none, .mov (.tmp 4)⟩,
  ⟨(some 26), none, .idxAddr none 1 (.tmp 25) (.cst (LV.int .i64 3))⟩,
  ⟨(some 27), none, .load 1 false (.tmp 26)⟩,
  ⟨(some 28), none, .mov (.tmp 0)⟩,
  ⟨(some 29), none, .slc 0 (.tmp 28) (some (.cst (LV.int .i64 8))) none⟩,
  ⟨(some 30), none, .build (LV.agg [(LV.int .i64 0), (LV.int .i64 0), (LV.int .i64 0), (LV.str [])]) [(0, (.tmp 21)), (1, (.tmp 24)), (2, (.tmp 27)), (3, (.tmp 29))]⟩,
  ⟨none, none, .store 4 true (.tmp 2) (.tmp 30)⟩,
  ⟨(some 3), none, .mov (.cst (LV.int .i64 0))⟩] []) .ret))))), [.cell 2 4 true, .tmp 3]⟩
/-- interpreter/udp.Check -/
def c_udp_Check : MFn := ⟨2, 28, (.seq (.reg [
  ⟨(some 4), none, .mov (.cst LV.nili)⟩] []) (.seq (.reg [
  ⟨(some 8), none, .mov (.tmp 0)⟩,
  ⟨(some 9), none, .call id_udp_Parse [(.tmp 8)]⟩,
  ⟨(some 7), none, .mov (.tmp 9)⟩,
  ⟨(some 10), none, .extract (.tmp 7) 0⟩,
  ⟨(some 11), none, .extract (.tmp 7) 1⟩,
  ⟨(some 5), none, .alloc (LV.agg [(LV.int .i64 0), (LV.int .i64 0), (LV.int .i64 0), (LV.str [])])⟩,
  ⟨none, none, .store 4 true (.tmp 5) (.tmp 10)⟩,
  ⟨(some 6), none, .mov (.tmp 11)⟩] []) (.seq (.block 0 (.seq (.reg [
  ⟨(some 13), none, .mov (.tmp 6)⟩,
  ⟨(some 14), none, .eqNil 1 true (.tmp 13)⟩,
  ⟨(some 12), none, .mov (.tmp 14)⟩] []) (.cond (.tmp 12) (.seq (.reg [
  ⟨(some 15), none, .mov (.tmp 6)⟩,
  ⟨(some 4), none, .mov (.tmp 15)⟩] []) .ret) (.seq (.reg [
  ⟨(some 17), none, .fieldAddr 2 2 (.tmp 5)⟩,
  ⟨(some 18), none, .load 1 false (.tmp 17)⟩,
  ⟨(some 19), none, .bin .eql (.tmp 18) (.cst (LV.int .i64 0))⟩,
  ⟨(some 16), none, .mov (.tmp 19)⟩] []) (.cond (.tmp 16) (.seq (.reg [
  ⟨(some 20), none, .call id_udp_fault [(.cst (LV.int .i64 4))]⟩,
  ⟨(some 4), none, .mov (.tmp 20)⟩] []) .ret) (.seq (.reg [
  ⟨(some 22), none, .mov (.tmp 1)⟩,
  ⟨(some 23), none, .mov (.tmp 0)⟩,
  ⟨(some 24), none, .bsl (LV.str []) 2 [(0, (.tmp 22)), (1, (.tmp 23))]⟩,
  ⟨(some 25), none, .call id_sum_Right [(.tmp 24)]⟩,
  ⟨(some 26), none, .un .not (.tmp 25)⟩,
  ⟨(some 21), none, .mov (.tmp 26)⟩] []) (.cond (.tmp 21) (.seq (.reg [
  ⟨(some 27), none, .call id_udp_fault [(.cst (LV.int .i64 9))]⟩,
  ⟨(some 4), none, .mov (.tmp 27)⟩] []) .ret) .skip))))))) (.seq (.reg [
  ⟨(some 4), none, .mov (.cst LV.nili)⟩] []) .ret)))), [.tmp 4]⟩
/-- interpreter/interpreterref05.Check -/
def c_interpreterref05_Check : MFn := ⟨2, 23, (.seq (.reg [
  ⟨(some 4), none, .mov (.cst (LV.int .i64 0))⟩] []) (.seq (.reg [
  ⟨(some 8), none, .mov (.tmp 0)⟩,
  ⟨(some 9), none, .call id_interpreterref05_Parse [(.tmp 8)]⟩,
  ⟨(some 7), none, .mov (.tmp 9)⟩,
  ⟨(some 10), none, .extract (.tmp 7) 0⟩,
  ⟨(some 11), none, .extract (.tmp 7) 1⟩,
  ⟨(some 5), none, .alloc (LV.agg [(LV.int .i64 0), (LV.int .i64 0), (LV.int .i64 0), (LV.str [])])⟩,
  ⟨none, none, .store 4 true (.tmp 5) (.tmp 10)⟩,
  ⟨(some 6), none, .mov (.tmp 11)⟩] []) (.seq (.seq (.reg [
  ⟨(some 12), none, .mov (.tmp 6)⟩,
  ⟨(some 13), none, .bin .neq (.tmp 12) (.cst (LV.int .i64 0))⟩] []) (.cond (.tmp 13) (.seq (.reg [
  ⟨(some 14), none, .mov (.tmp 6)⟩,
  ⟨(some 4), none, .mov (.tmp 14)⟩] []) .ret) .skip)) (.seq (.seq (.reg [
  ⟨(some 15), none, .fieldAddr 2 2 (.tmp 5)⟩,
  ⟨(some 16), none, .load 1 false (.tmp 15)⟩,
  ⟨(some 17), none, .bin .eql (.tmp 16) (.cst (LV.int .i64 0))⟩] []) (.cond (.tmp 17) (.seq (.reg [
  ⟨(some 4), none, .mov (.cst (LV.int .i64 4))⟩] []) .ret) .skip)) (.seq (.seq (.reg [
  ⟨(some 18), none, .mov (.tmp 1)⟩,
  ⟨(some 19), none, .mov (.tmp 0)⟩,
  ⟨(some 20), none, .bin .add (.tmp 18) (.tmp 19)⟩,
  ⟨(some 21), none, .call id_interpreterref02_Of [(.tmp 20)]⟩,
  ⟨(some 22), none, .bin .neq (.tmp 21) (.cst (LV.int .i64 0))⟩] []) (.cond (.tmp 22) (.seq (.reg [
  ⟨(some 4), none, .mov (.cst (LV.int .i64 9))⟩] []) .ret) .skip)) (.seq (.reg [
  ⟨(some 4), none, .mov (.cst (LV.int .i64 0))⟩] []) .ret)))))), [.tmp 4]⟩
/-- interpreter/sum.Right -/
def c_sum_Right : MFn := ⟨1, 6, (.seq (.reg [
  ⟨(some 2), none, .mov (.cst (LV.bool false))⟩] []) (.seq (.reg [
  ⟨(some 3), none, .mov (.tmp 0)⟩,
  ⟨(some 4), none, .call id_sum_Of [(.tmp 3)]⟩,
  ⟨(some 5), none, .bin .eql (.tmp 4) (.cst (LV.int .i64 0))⟩,
  ⟨(some 2), none, .mov (.tmp 5)⟩] []) .ret)), [.tmp 2]⟩
/-- interpreter/tcp.Parse -/
def c_tcp_Parse : MFn := ⟨1, 37, (.seq (.reg [
  ⟨(some 2), none, .alloc (LV.agg [(LV.int .i64 0), (LV.int .i64 0), (LV.int .i64 0), (LV.str [])])⟩,
  ⟨(some 3), none, .mov (.cst LV.nili)⟩] []) (.seq (.seq (.reg [
  ⟨(some 5), none, .mov (.tmp 0)⟩,
  ⟨(some 6), none, .len true (.tmp 5)⟩,
  ⟨(some 7), none, .bin .lss (.tmp 6) (.cst (LV.int .i64 20))⟩] []) (.cond (.tmp 7) (.seq (.reg [
  ⟨(some 8), none, .build (LV.agg [(LV.int .i64 0), (LV.int .i64 0), (LV.int .i64 0), (LV.str [])]) []⟩,
  ⟨(some 9), none, .call id_tcp_fault [(.cst (LV.int .i64 7))]⟩,
  ⟨none, none, .store 4 true (.tmp 2) (.tmp 8)⟩,
  ⟨(some 3), none, .mov (.tmp 9)⟩] []) .ret) .skip)) (.seq (.reg [
  ⟨(some 10), none, .mov (.tmp 0)⟩,
  ⟨(some 11), none, .idxStr (.tmp 10) (.cst (LV.int .i64 12))⟩,
  ⟨(some 12), none, .bin .shr (.tmp 11) (.cst (LV.int .u64 4))⟩,
  ⟨(some 13), none, .conv .i64 (.tmp 12)⟩,
  ⟨(some 14), none, .bin .mul (.tmp 13) (.cst (LV.int .i64 4))⟩,
  ⟨(some 4), none, .mov (.tmp 14)⟩] []) (.seq (.block 0 (.seq (.reg [
  ⟨(some 16), none, .mov (.tmp 4)⟩,
  ⟨(some 17), none, .bin .lss (.tmp 16) (.cst (LV.int .i64 20))⟩,
  ⟨(some 15), none, .mov (.tmp 17)⟩] []) (.cond (.tmp 15) (.seq (.reg [
  ⟨(some 18), none, .build (LV.agg [(LV.int .i64 0), (LV.int .i64 0), (LV.int .i64 0), (LV.str [])]) []⟩,
  ⟨(some 19), none, .call id_tcp_fault [(.cst (LV.int .i64 8))]⟩,
  ⟨none, none, .store 4 true (.tmp 2) (.tmp 18)⟩,
  ⟨(some 3), none, .mov (.tmp 19)⟩] []) .ret) (.seq (.reg [
  ⟨(some 21), none, .mov (.tmp 0)⟩,
  ⟨(some 22), none, .len true (.tmp 21)⟩,
  ⟨(some 23), none, .mov (.tmp 4)⟩,
  ⟨(some 24), none, .bin .lss (.tmp 22) (.tmp 23)⟩,
  ⟨(some 20), none, .mov (.tmp 24)⟩] []) (.cond (.tmp 20) (.seq (.reg [
  ⟨(some 25), none, .build (LV.agg [(LV.int .i64 0), (LV.int .i64 0), (LV.int .i64 0), (LV.str [])]) []⟩,
  ⟨(some 26), none, .call id_tcp_fault [(.cst (LV.int .i64 7))]⟩,
  ⟨none, none, .store 4 true (.tmp 2) (.tmp 25)⟩,
  ⟨(some 3), none, .mov (.tmp 26)⟩] []) .ret) .skip))))) (.seq (.reg [
  ⟨(some 27), none, .mov (.tmp 0)⟩,
  ⟨(some 28), none, .call id_tcp_two [(.tmp 27), (.cst (LV.int .i64 0))]⟩,
  ⟨(some 29), none, .mov (.tmp 0)⟩,
  ⟨(some 30), none, .call id_tcp_two [(.tmp 29), (.cst (LV.int .i64 2))]⟩,
  ⟨(some 31), none, .mov (.tmp 0)⟩,
  ⟨(some 32), none, .idxStr (.tmp 31) (.cst (LV.int .i64 13))⟩,
  ⟨(some 33), none, .bin .and (.tmp 32) (.cst (LV.int .u8 63))⟩,
  ⟨(some 34), none, .conv .i64 (.tmp 33)⟩,
  ⟨(some 35), none, .mov (.tmp 0)⟩,
  ⟨(some 36), none, .build (LV.agg [(LV.int .i64 0), (LV.int .i64 0), (LV.int .i64 0), (LV.str [])]) [(0, (.tmp 28)), (1, (.tmp 30)), (2, (.tmp 34)), (3, (.tmp 35))]⟩,
  ⟨none, none, .store 4 true (.tmp 2) (.tmp 36)⟩,
  ⟨(some 3), none, .mov (.cst LV.nili)⟩] []) .ret))))), [.cell 2 4 true, .tmp 3]⟩
/-- interpreter/interpreterlaw06.raw -/
def c_interpreterlaw06_raw : MFn := ⟨0, 5, (.seq (.reg [
  ⟨(some 0), none, .mov (.cst (LV.str []))⟩] []) (.seq (.reg [
  ⟨(some 1), none, .call id_strings_Repeat [(.cst (LV.str [0])), (.cst (LV.int .i64 12))]⟩,
  ⟨(some 2), none, .bin .add (.tmp 1) (.cst (LV.str [80]))⟩,
  ⟨(some 3), none, .call id_strings_Repeat [(.cst (LV.str [0])), (.cst (LV.int .i64 7))]⟩,
  ⟨(some 4), none, .bin .add (.tmp 2) (.tmp 3)⟩,
  ⟨(some 0), none, .mov (.tmp 4)⟩] []) .ret)), [.tmp 0]⟩
/-- interpreter/tcp.Bytes -/
def c_tcp_Bytes : MFn := ⟨2, 66, (.seq (.reg [
  ⟨(some 2), none, .box (.tmp 0)⟩,
  ⟨(some 4), none, .mov (.cst (LV.str []))⟩,
  ⟨(some 5), none, .mov (.cst LV.nili)⟩] []) (.seq (.seq (.reg [
  ⟨(some 15), none, .fieldAddr 3 3 (.tmp 2)⟩,
  ⟨(some 16), none, .load 1 false (.tmp 15)⟩,
  ⟨(some 17), none, .call id_tcp_Parse [(.tmp 16)]⟩,
  ⟨(some 14), none, .mov (.tmp 17)⟩,
  ⟨(some 18), none, .extract (.tmp 14) 0⟩,
  ⟨(some 19), none, .extract (.tmp 14) 1⟩,
  ⟨(some 6), none, .alloc (LV.agg [(LV.int .i64 0), (LV.int .i64 0), (LV.int .i64 0), (LV.str [])])⟩,
  ⟨none, none, .store 4 true (.tmp 6) (.tmp 18)⟩,
  ⟨(some 7), none, .mov (.tmp 19)⟩] []) (.seq (.reg [
  ⟨(some 20), none, .mov (.tmp 7)⟩,
  ⟨(some 21), none, .eqNil 1 true (.tmp 20)⟩] []) (.cond (.tmp 21) (.seq (.reg [
  ⟨(some 22), none, .mov (.tmp 7)⟩,
  ⟨(some 4), none, .mov (.cst (LV.str []))⟩,
  ⟨(some 5), none, .mov (.tmp 22)⟩] []) .ret) .skip))) (.seq (.reg [
  ⟨(some 24), none, .fieldAddr 0 0 (.tmp 2)⟩,
  ⟨(some 25), none, .load 1 false (.tmp 24)⟩,
  ⟨(some 26), none, .call id_num_Big [(.tmp 25), (.cst (LV.int .i64 2))]⟩,
  ⟨(some 23), none, .mov (.tmp 26)⟩,
  ⟨(some 27), none, .extract (.tmp 23) 0⟩,
  ⟨(some 28), none, .extract (.tmp 23) 1⟩,
  ⟨(some 8), none, .mov (.tmp 27)⟩,
  ⟨(some 9), none, .mov (.tmp 28)⟩] []) (.seq (.seq (.reg [
  ⟨(some 29), none, .mov (.tmp 9)⟩,
  ⟨(some 30), none, .eqNil 1 true (.tmp 29)⟩] []) (.cond (.tmp 30) (.seq (.reg [
  ⟨(some 31), none, .mov (.tmp 9)⟩,
  ⟨(some 4), none, .mov (.cst (LV.str []))⟩,
  ⟨(some 5), none, .mov (.tmp 31)⟩] []) .ret) .skip)) (.seq (.reg [
  ⟨(some 33), none, .fieldAddr 1 1 (.tmp 2)⟩,
  ⟨(some 34), none, .load 1 false (.tmp 33)⟩,
  ⟨(some 35), none, .call id_num_Big [(.tmp 34), (.cst (LV.int .i64 2))]⟩,
  ⟨(some 32), none, .mov (.tmp 35)⟩,
  ⟨(some 36), none, .extract (.tmp 32) 0⟩,
  ⟨(some 37), none, .extract (.tmp 32) 1⟩,
  ⟨(some 10), none, .mov (.tmp 36)⟩,
  ⟨(some 9), none, .mov (.tmp 37)⟩] []) (.seq (.seq (.reg [
  ⟨(some 38), none, .mov (.tmp 9)⟩,
  ⟨(some 39), none, .eqNil 1 true (.tmp 38)⟩] []) (.cond (.tmp 39) (.seq (.reg [
  ⟨(some 40), none, .mov (.tmp 9)⟩,
  ⟨(some 4), none, .mov (.cst (LV.str []))⟩,
  ⟨(some 5), none, .mov (.tmp 40)⟩] []) .ret) .skip)) (.seq (.reg [
  ⟨(some 41), none, .mov (.tmp 8)⟩,
  ⟨(some 42), none, .mov (.tmp 10)⟩,
  ⟨(some 43), none, .bin .add (.tmp 41) (.tmp 42)⟩,
  ⟨(some 44), none, .fieldAddr 3 3 (.tmp 2)⟩,
  ⟨(some 45), none, .load 1 false (.tmp 44)⟩,
  ⟨(some 46), none, .slc 0 (.tmp 45) (some (.cst (LV.int .i64 4))) (some (.cst (LV.int .i64 16)))⟩,
  ⟨(some 47), none, .bin .add (.tmp 43) (.tmp 46)⟩,
  ⟨(some 48), none, .fieldAddr 3 3 (.tmp 2)⟩,
  ⟨(some 49), none, .load 1 false (.tmp 48)⟩,
  ⟨(some 50), none, .slc 0 (.tmp 49) (some (.cst (LV.int .i64 18))) none⟩,
  ⟨(some 11), none, .mov (.tmp 47)⟩,
  ⟨(some 12), none, .mov (.tmp 50)⟩] []) (.seq (.reg [
  ⟨(some 52), none, .mov (.tmp 1)⟩,
  ⟨(some 53), none, .mov (.tmp 11)⟩,
  ⟨(some 54), none, .mov (.tmp 12)⟩,
  ⟨(some 55), none, .bsl (LV.str []) 4 [(0, (.tmp 52)), (1, (.tmp 53)), (2, (.cst (LV.str [0, 0]))), (3, (.tmp 54))]⟩,
  ⟨(some 56), none, .call id_sum_Of [(.tmp 55)]⟩,
  ⟨(some 57), none, .call id_num_Big [(.tmp 56), (.cst (LV.int .i64 2))]⟩,
  ⟨(some 51), none, .mov (.tmp 57)⟩,
  ⟨(some 58), none, .extract (.tmp 51) 0⟩,
  ⟨(some 59), none, .extract (.tmp 51) 1⟩,
  ⟨(some 13), none, .mov (.tmp 58)⟩,
  ⟨(some 9), none, .mov (.tmp 59)⟩] []) (.seq (.reg [
  ⟨(some 60), none, .mov (.tmp 11)⟩,
  ⟨(some 61), none, .mov (.tmp 13)⟩,
  ⟨(some 62), none, .bin .add (.tmp 60) (.tmp 61)⟩,
  ⟨(some 63), none, .mov (.tmp 12)⟩,
  ⟨(some 64), none, .bin .add (.tmp 62) (.tmp 63)⟩,
  ⟨(some 65), none, .mov (.tmp 9)⟩,
  ⟨(some 4), none, .mov (.tmp 64)⟩,
  ⟨(some 5), none, .mov (.tmp 65)⟩] []) .ret))))))))), [.tmp 4, .tmp 5]⟩
/-- interpreter/interpreterlaw06.awake -/
def c_interpreterlaw06_awake : MFn := ⟨0, 35, (.seq (.reg [
  ⟨(some 0), none, .mov (.cst (LV.bool false))⟩] []) (.seq (.reg [
  ⟨(some 6), none, .call id_interpreterlaw06_raw []⟩,
  ⟨(some 7), none, .build (LV.agg [(LV.int .i64 0), (LV.int .i64 0), (LV.int .i64 0), (LV.str [])]) [(0, (.cst (LV.int .i64 1))), (1, (.cst (LV.int .i64 2))), (3, (.tmp 6))]⟩,
  ⟨(some 8), none, .call id_tcp_Bytes [(.tmp 7), (.cst (LV.str []))]⟩,
  ⟨(some 5), none, .mov (.tmp 8)⟩,
  ⟨(some 9), none, .extract (.tmp 5) 0⟩,
  ⟨(some 10), none, .extract (.tmp 5) 1⟩,
  ⟨(some 1), none, .mov (.tmp 9)⟩,
  ⟨(some 2), none, .mov (.tmp 10)⟩] []) (.seq (.reg [
  ⟨(some 12), none, .mov (.tmp 1)⟩,
  ⟨(some 13), none, .call id_tcp_Parse [(.tmp 12)]⟩,
  ⟨(some 11), none, .mov (.tmp 13)⟩,
  ⟨(some 14), none, .extract (.tmp 11) 0⟩,
  ⟨(some 15), none, .extract (.tmp 11) 1⟩,
  ⟨(some 3), none, .alloc (LV.agg [(LV.int .i64 0), (LV.int .i64 0), (LV.int .i64 0), (LV.str [])])⟩,
  ⟨none, none, .store 4 true (.tmp 3) (.tmp 14)⟩,
  ⟨(some 4), none, .mov (.tmp 15)⟩] []) (.seq (.reg [
  ⟨(some 16), none, .mov (.tmp 2)⟩,
  ⟨(some 17), none, .eqNil 1 false (.tmp 16)⟩,
  ⟨(some 18), none, .mov (.tmp 17)⟩,
  ⟨(some 19), (some (18, true)), .mov (.tmp 4)⟩,
  ⟨(some 20), (some (18, true)), .eqNil 1 false (.tmp 19)⟩,
  ⟨(some 21), none, .pick (.tmp 18) (.tmp 20) (.cst (LV.bool false))⟩,
  ⟨(some 22), none, .mov (.tmp 21)⟩,
  ⟨(some 23), (some (22, true)), .mov (.tmp 1)⟩,
  ⟨(some 24), (some (22, true)), .call id_strings_Repeat [(.cst (LV.str [0])), (.cst (LV.int .i64 8))]⟩,
  ⟨(some 25), (some (22, true)), .bin .add (.cst (LV.str [0, 1, 0, 2])) (.tmp 24)⟩,
  ⟨(some 26), (some (22, true)), .bin .add (.tmp 25) (.cst (LV.str [80, 0, 0, 0, 175, 252, 0, 0]))⟩,
  ⟨(some 27), (some (22, true)), .bin .eql (.tmp 23) (.tmp 26)⟩,
  ⟨(some 28), none, .pick (.tmp 22) (.tmp 27) (.cst (LV.bool false))⟩,
  ⟨(some 29), none, .mov (.tmp 28)⟩,
  ⟨(some 30), (some (29, true)), .load 4 true (.tmp 3)⟩,
  ⟨(some 31), (some (29, true)), .mov (.tmp 1)⟩,
  ⟨(some 32), (some (29, true)), .build (LV.agg [(LV.int .i64 0), (LV.int .i64 0), (LV.int .i64 0), (LV.str [])]) [(0, (.cst (LV.int .i64 1))), (1, (.cst (LV.int .i64 2))), (3, (.tmp 31))]⟩,
  ⟨(some 33), (some (29, true)), .eqS (Sh.agg [(Sh.int .i64), (Sh.int .i64), (Sh.int .i64), Sh.str]) false (.tmp 30) (.tmp 32)⟩,
  ⟨(some 34), none, .pick (.tmp 29) (.tmp 33) (.cst (LV.bool false))⟩,
  ⟨(some 0), none, .mov (.tmp 34)⟩] []) .ret)))), [.tmp 0]⟩
/-- interpreter/interpreterlaw06.same -/
def c_interpreterlaw06_same : MFn := ⟨2, 36, (.seq (.reg [
  ⟨(some 4), none, .mov (.cst (LV.bool false))⟩] []) (.seq (.seq (.reg [
  ⟨(some 7), none, .mov (.tmp 1)⟩,
  ⟨(some 8), none, .bin .eql (.tmp 7) (.cst (LV.int .i64 0))⟩] []) (.cond (.tmp 8) (.seq (.reg [
  ⟨(some 9), none, .mov (.tmp 0)⟩,
  ⟨(some 10), none, .eqNil 1 false (.tmp 9)⟩,
  ⟨(some 4), none, .mov (.tmp 10)⟩] []) .ret) .skip)) (.seq (.reg [
  ⟨(some 12), none, .mov (.tmp 0)⟩,
  ⟨(some 13), none, .assert ty_ptr_num_Fault true LV.nilp (.tmp 12)⟩,
  ⟨(some 11), none, .mov (.tmp 13)⟩,
  ⟨(some 14), none, .extract (.tmp 11) 0⟩,
  ⟨(some 15), none, .extract (.tmp 11) 1⟩,
  ⟨(some 5), none, .mov (.tmp 14)⟩,
  ⟨(some 6), none, .mov (.tmp 15)⟩] []) (.seq (.reg [
  ⟨(some 16), none, .mov (.tmp 6)⟩,
  ⟨(some 17), none, .mov (.tmp 16)⟩,
  ⟨(some 18), (some (17, true)), .mov (.tmp 5)⟩,
  ⟨(some 19), (some (17, true)), .eqNil 0 true (.tmp 18)⟩,
  ⟨(some 20), none, .pick (.tmp 17) (.tmp 19) (.cst (LV.bool false))⟩,
  ⟨(some 21), none, .mov (.tmp 20)⟩,
  ⟨(some 22), (some (21, true)), .mov (.tmp 5)⟩,
  ⟨(some 23), (some (21, true)), .nilCheck (.tmp 22)⟩,
  ⟨(some 24), (some (21, true)), .fieldAddr 0 0 (.tmp 23)⟩,
  ⟨(some 25), (some (21, true)), .load 1 false (.tmp 24)⟩,
  ⟨(some 26), (some (21, true)), .mov (.tmp 1)⟩,
  ⟨(some 27), (some (21, true)), .bin .eql (.tmp 25) (.tmp 26)⟩,
  ⟨(some 28), none, .pick (.tmp 21) (.tmp 27) (.cst (LV.bool false))⟩,
  ⟨(some 29), none, .mov (.tmp 28)⟩,
  ⟨(some 30), (some (29, true)), .mov (.tmp 5)⟩,
  ⟨(some 31), (some (29, true)), .nilCheck (.tmp 30)⟩,
  ⟨(some 32), (some (29, true)), .fieldAddr 1 1 (.tmp 31)⟩,
  ⟨(some 33), (some (29, true)), .load 1 false (.tmp 32)⟩,
  ⟨(some 34), (some (29, true)), .bin .eql (.tmp 33) (.cst (LV.int .i64 0))⟩,
  ⟨(some 35), none, .pick (.tmp 29) (.tmp 34) (.cst (LV.bool false))⟩,
  ⟨(some 4), none, .mov (.tmp 35)⟩] []) .ret)))), [.tmp 4]⟩
/-- interpreter/interpreterref06.Bytes -/
def c_interpreterref06_Bytes : MFn := ⟨2, 85, (.seq (.reg [
  ⟨(some 2), none, .box (.tmp 0)⟩,
  ⟨(some 4), none, .mov (.cst (LV.str []))⟩,
  ⟨(some 5), none, .mov (.cst (LV.int .i64 0))⟩] []) (.seq (.reg [
  ⟨(some 11), none, .fieldAddr 3 3 (.tmp 2)⟩,
  ⟨(some 12), none, .load 1 false (.tmp 11)⟩,
  ⟨(some 13), none, .call id_interpreterref06_Parse [(.tmp 12)]⟩,
  ⟨(some 10), none, .mov (.tmp 13)⟩,
  ⟨(some 14), none, .extract (.tmp 10) 0⟩,
  ⟨(some 15), none, .extract (.tmp 10) 1⟩,
  ⟨(some 6), none, .alloc (LV.agg [(LV.int .i64 0), (LV.int .i64 0), (LV.int .i64 0), (LV.str [])])⟩,
  ⟨none, none, .store 4 true (.tmp 6) (.tmp 14)⟩,
  ⟨(some 7), none, .mov (.tmp 15)⟩] []) (.seq (.seq (.reg [
  ⟨(some 16), none, .mov (.tmp 7)⟩,
  ⟨(some 17), none, .bin .neq (.tmp 16) (.cst (LV.int .i64 0))⟩] []) (.cond (.tmp 17) (.seq (.reg [
  ⟨(some 18), none, .mov (.tmp 7)⟩,
  ⟨(some 4), none, .mov (.cst (LV.str []))⟩,
  ⟨(some 5), none, .mov (.tmp 18)⟩] []) .ret) .skip)) (.seq (.seq (.reg [
  ⟨(some 19), none, .fieldAddr 0 0 (.tmp 2)⟩,
  ⟨(some 20), none, .load 1 false (.tmp 19)⟩,
  ⟨(some 21), none, .bin .lss (.tmp 20) (.cst (LV.int .i64 0))⟩,
  ⟨(some 22), none, .mov (.tmp 21)⟩,
  ⟨(some 23), (some (22, false)), .fieldAddr 0 0 (.tmp 2)⟩,
  ⟨(some 24), (some (22, false)), .load 1 false (.tmp 23)⟩,
  ⟨(some 25), (some (22, false)), .bin .gtr (.tmp 24) (.cst (LV.int .i64 65535))⟩,
  ⟨(some 26), none, .pick (.tmp 22) (.cst (LV.bool true)) (.tmp 25)⟩,
  ⟨(some 27), none, .mov (.tmp 26)⟩,
  ⟨(some 28), (some (27, false)), .fieldAddr 1 1 (.tmp 2)⟩,
  ⟨(some 29), (some (27, false)), .load 1 false (.tmp 28)⟩,
  ⟨(some 30), (some (27, false)), .bin .lss (.tmp 29) (.cst (LV.int .i64 0))⟩,
  ⟨(some 31), none, .pick (.tmp 27) (.cst (LV.bool true)) (.tmp 30)⟩,
  ⟨(some 32), none, .mov (.tmp 31)⟩,
  ⟨(some 33), (some (32, false)), .fieldAddr 1 1 (.tmp 2)⟩,
  ⟨(some 34), (some (32, false)), .load 1 false (.tmp 33)⟩,
  ⟨(some 35), (some (32, false)), .bin .gtr (.tmp 34) (.cst (LV.int .i64 65535))⟩,
  ⟨(some 36), none, .pick (.tmp 32) (.cst (LV.bool true)) (.tmp 35)⟩] []) (.cond (.tmp 36) (.seq (.reg [
  ⟨(some 4), none, .mov (.cst (LV.str []))⟩,
  ⟨(some 5), none, .mov (.cst (LV.int .i64 13))⟩] []) .ret) .skip)) (.seq (.reg [
  ⟨(some 37), none, .fieldAddr 3 3 (.tmp 2)⟩,
  ⟨(some 38), none, .load 1 false (.tmp 37)⟩,
  ⟨(some 39), none, .s2b (.tmp 38)⟩,
  ⟨(some 8), none, .mov (.tmp 39)⟩] []) (.seq (.reg [
  ⟨(some 40), none, .mov (.tmp 8)⟩,
  ⟨(some 41), none, .fieldAddr 0 0 (.tmp 2)⟩,
  ⟨(some 42), none, .load 1 false (.tmp 41)⟩,
  ⟨(some 43), none, .bin .quo (.tmp 42) (.cst (LV.int .i64 256))⟩,
  ⟨(some 44), none, .conv .u8 (.tmp 43)⟩,
  ⟨(some 45), none, .idxAddr none 1 (.tmp 40) (.cst (LV.int .i64 0))⟩,
  ⟨none, none, .store 1 false (.tmp 45) (.tmp 44)⟩] []) (.seq (.reg [
  ⟨(some 46), none, .mov (.tmp 8)⟩,
  ⟨(some 47), none, .fieldAddr 0 0 (.tmp 2)⟩,
  ⟨(some 48), none, .load 1 false (.tmp 47)⟩,
  ⟨(some 49), none, .bin .rem (.tmp 48) (.cst (LV.int .i64 256))⟩,
  ⟨(some 50), none, .conv .u8 (.tmp 49)⟩,
  ⟨(some 51), none, .idxAddr none 1 (.tmp 46) (.cst (LV.int .i64 1))⟩,
  ⟨none, none, .store 1 false (.tmp 51) (.tmp 50)⟩] []) (.seq (.reg [
  ⟨(some 52), none, .mov (.tmp 8)⟩,
  ⟨(some 53), none, .fieldAddr 1 1 (.tmp 2)⟩,
  ⟨(some 54), none, .load 1 false (.tmp 53)⟩,
  ⟨(some 55), none, .bin .quo (.tmp 54) (.cst (LV.int .i64 256))⟩,
  ⟨(some 56), none, .conv .u8 (.tmp 55)⟩,
  ⟨(some 57), none, .idxAddr none 1 (.tmp 52) (.cst (LV.int .i64 2))⟩,
  ⟨none, none, .store 1 false (.tmp 57) (.tmp 56)⟩] []) (.seq (.reg [
  ⟨(some 58), none, .mov (.tmp 8)⟩,
  ⟨(some 59), none, .fieldAddr 1 1 (.tmp 2)⟩,
  ⟨(some 60), none, .load 1 false (.tmp 59)⟩,
  ⟨(some 61), none, .bin .rem (.tmp 60) (.cst (LV.int .i64 256))⟩,
  ⟨(some 62), none, .conv .u8 (.tmp 61)⟩,
  ⟨(some 63), none, .idxAddr none 1 (.tmp 58) (.cst (LV.int .i64 3))⟩,
  ⟨none, none, .store 1 false (.tmp 63) (.tmp 62)⟩] []) (.seq (.reg [
  ⟨(some 64), none, .mov (.tmp 8)⟩,
  ⟨(some 65), none, .idxAddr none 1 (.tmp 64) (.cst (LV.int .i64 16))⟩,
  ⟨none, none, .store 1 false (.tmp 65) (.cst (LV.int .u8 0))⟩] []) (.seq (.reg [
  ⟨(some 66), none, .mov (.tmp 8)⟩,
  ⟨(some 67), none, .idxAddr none 1 (.tmp 66) (.cst (LV.int .i64 17))⟩,
  ⟨none, none, .store 1 false (.tmp 67) (.cst (LV.int .u8 0))⟩] []) (.seq (.reg [
  ⟨(some 68), none, .mov (.tmp 1)⟩,
  ⟨(some 69), none, .mov (.tmp 8)⟩,
  ⟨(some 70), none, .b2s (.tmp 69)⟩,
  ⟨(some 71), none, .bin .add (.tmp 68) (.tmp 70)⟩,
  ⟨(some 72), none, .call id_interpreterref02_Of [(.tmp 71)]⟩,
  ⟨(some 9), none, .mov (.tmp 72)⟩] []) (.seq (.reg [
  ⟨(some 73), none, .mov (.tmp 8)⟩,
  ⟨(some 74), none, .mov (.tmp 9)⟩,
  ⟨(some 75), none, .bin .quo (.tmp 74) (.cst (LV.int .i64 256))⟩,
  ⟨(some 76), none, .conv .u8 (.tmp 75)⟩,
  ⟨(some 77), none, .idxAddr none 1 (.tmp 73) (.cst (LV.int .i64 16))⟩,
  ⟨none, none, .store 1 false (.tmp 77) (.tmp 76)⟩] []) (.seq (.reg [
  ⟨(some 78), none, .mov (.tmp 8)⟩,
  ⟨(some 79), none, .mov (.tmp 9)⟩,
  ⟨(some 80), none, .bin .rem (.tmp 79) (.cst (LV.int .i64 256))⟩,
  ⟨(some 81), none, .conv .u8 (.tmp 80)⟩,
  ⟨(some 82), none, .idxAddr none 1 (.tmp 78) (.cst (LV.int .i64 17))⟩,
  ⟨none, none, .store 1 false (.tmp 82) (.tmp 81)⟩] []) (.seq (.reg [
  ⟨(some 83), none, .mov (.tmp 8)⟩,
  ⟨(some 84), none, .b2s (.tmp 83)⟩,
  ⟨(some 4), none, .mov (.tmp 84)⟩,
  ⟨(some 5), none, .mov (.cst (LV.int .i64 0))⟩] []) .ret))))))))))))))), [.tmp 4, .tmp 5]⟩
/-- interpreter/interpreterref06.Parse -/
def c_interpreterref06_Parse : MFn := ⟨1, 38, (.seq (.reg [
  ⟨(some 2), none, .alloc (LV.agg [(LV.int .i64 0), (LV.int .i64 0), (LV.int .i64 0), (LV.str [])])⟩,
  ⟨(some 3), none, .mov (.cst (LV.int .i64 0))⟩] []) (.seq (.seq (.reg [
  ⟨(some 6), none, .mov (.tmp 0)⟩,
  ⟨(some 7), none, .len true (.tmp 6)⟩,
  ⟨(some 8), none, .bin .lss (.tmp 7) (.cst (LV.int .i64 20))⟩] []) (.cond (.tmp 8) (.seq (.reg [
  ⟨(some 9), none, .build (LV.agg [(LV.int .i64 0), (LV.int .i64 0), (LV.int .i64 0), (LV.str [])]) []⟩,
  ⟨none, none, .store 4 true (.tmp 2) (.tmp 9)⟩,
  ⟨(some 3), none, .mov (.cst (LV.int .i64 7))⟩] []) .ret) .skip)) (.seq (.reg [
  ⟨(some 10), none, .mov (.tmp 0)⟩,
  ⟨(some 11), none, .idxStr (.tmp 10) (.cst (LV.int .i64 12))⟩,
  ⟨(some 12), none, .conv .i64 (.tmp 11)⟩,
  ⟨(some 13), none, .bin .quo (.tmp 12) (.cst (LV.int .i64 16))⟩,
  ⟨(some 14), none, .bin .mul (.cst (LV.int .i64 4)) (.tmp 13)⟩,
  ⟨(some 4), none, .mov (.tmp 14)⟩] []) (.seq (.seq (.reg [
  ⟨(some 15), none, .mov (.tmp 4)⟩,
  ⟨(some 16), none, .bin .lss (.tmp 15) (.cst (LV.int .i64 20))⟩] []) (.cond (.tmp 16) (.seq (.reg [
  ⟨(some 17), none, .build (LV.agg [(LV.int .i64 0), (LV.int .i64 0), (LV.int .i64 0), (LV.str [])]) []⟩,
  ⟨none, none, .store 4 true (.tmp 2) (.tmp 17)⟩,
  ⟨(some 3), none, .mov (.cst (LV.int .i64 8))⟩] []) .ret) .skip)) (.seq (.seq (.reg [
  ⟨(some 18), none, .mov (.tmp 0)⟩,
  ⟨(some 19), none, .len true (.tmp 18)⟩,
  ⟨(some 20), none, .mov (.tmp 4)⟩,
  ⟨(some 21), none, .bin .lss (.tmp 19) (.tmp 20)⟩] []) (.cond (.tmp 21) (.seq (.reg [
  ⟨(some 22), none, .build (LV.agg [(LV.int .i64 0), (LV.int .i64 0), (LV.int .i64 0), (LV.str [])]) []⟩,
  ⟨none, none, .store 4 true (.tmp 2) (.tmp 22)⟩,
  ⟨(some 3), none, .mov (.cst (LV.int .i64 7))⟩] []) .ret) .skip)) (.seq (.reg [
  ⟨(some 23), none, .mov (.tmp 0)⟩,
  ⟨(some 24), none, .slc 0 (.tmp 23) none (some (.cst (LV.int .i64 4)))⟩,
  ⟨(some 25), none, .call id_interpreterref02_Words [(.tmp 24)]⟩,
  ⟨(some 5), none, .mov (.tmp 25)⟩] []) (.seq (.reg [
  ⟨(some 26), none, .mov (.tmp 5)⟩,
  ⟨(some 27), none, .idxAddr none 1 (.tmp 26) (.cst (LV.int .i64 0))⟩,
  ⟨(some 28), none, .load 1 false (.tmp 27)⟩,
  ⟨(some 29), none, .mov (.tmp 5)⟩,
  ⟨(some 30), none, .idxAddr none 1 (.tmp 29) (.cst (LV.int .i64 1))⟩,
  ⟨(some 31), none, .load 1 false (.tmp 30)⟩,
  ⟨(some 32), none, .mov (.tmp 0)⟩,
  ⟨(some 33), none, .idxStr (.tmp 32) (.cst (LV.int .i64 13))⟩,
  ⟨(some 34), none, .conv .i64 (.tmp 33)⟩,
  ⟨(some 35), none, .bin .rem (.tmp 34) (.cst (LV.int .i64 64))⟩,
  ⟨(some 36), none, .mov (.tmp 0)⟩,
  ⟨(some 37), none, .build (LV.agg [(LV.int .i64 0), (LV.int .i64 0), (LV.int .i64 0), (LV.str [])]) [(0, (.tmp 28)), (1, (.tmp 31)), (2, (.tmp 35)), (3, (.tmp 36))]⟩,
  ⟨none, none, .store 4 true (.tmp 2) (.tmp 37)⟩,
  ⟨(some 3), none, .mov (.cst (LV.int .i64 0))⟩] []) .ret))))))), [.cell 2 4 true, .tmp 3]⟩
/-- interpreter/tcp.Check -/
def c_tcp_Check : MFn := ⟨2, 21, (.seq (.reg [
  ⟨(some 4), none, .mov (.cst LV.nili)⟩] []) (.seq (.seq (.reg [
  ⟨(some 8), none, .mov (.tmp 0)⟩,
  ⟨(some 9), none, .call id_tcp_Parse [(.tmp 8)]⟩,
  ⟨(some 7), none, .mov (.tmp 9)⟩,
  ⟨(some 10), none, .extract (.tmp 7) 0⟩,
  ⟨(some 11), none, .extract (.tmp 7) 1⟩,
  ⟨(some 5), none, .alloc (LV.agg [(LV.int .i64 0), (LV.int .i64 0), (LV.int .i64 0), (LV.str [])])⟩,
  ⟨none, none, .store 4 true (.tmp 5) (.tmp 10)⟩,
  ⟨(some 6), none, .mov (.tmp 11)⟩] []) (.seq (.reg [
  ⟨(some 12), none, .mov (.tmp 6)⟩,
  ⟨(some 13), none, .eqNil 1 true (.tmp 12)⟩] []) (.cond (.tmp 13) (.seq (.reg [
  ⟨(some 14), none, .mov (.tmp 6)⟩,
  ⟨(some 4), none, .mov (.tmp 14)⟩] []) .ret) .skip))) (.seq (.seq (.reg [
  ⟨(some 15), none, .mov (.tmp 1)⟩,
  ⟨(some 16), none, .mov (.tmp 0)⟩,
  ⟨(some 17), none, .bsl (LV.str []) 2 [(0, (.tmp 15)), (1, (.tmp 16))]⟩,
  ⟨(some 18), none, .call id_sum_Right [(.tmp 17)]⟩,
  ⟨(some 19), none, .un .not (.tmp 18)⟩] []) (.cond (.tmp 19) (.seq (.reg [
  ⟨(some 20), none, .call id_tcp_fault [(.cst (LV.int .i64 9))]⟩,
  ⟨(some 4), none, .mov (.tmp 20)⟩] []) .ret) .skip)) (.seq (.reg [
  ⟨(some 4), none, .mov (.cst LV.nili)⟩] []) .ret)))), [.tmp 4]⟩
/-- interpreter/interpreterref06.Check -/
def c_interpreterref06_Check : MFn := ⟨2, 20, (.seq (.reg [
  ⟨(some 4), none, .mov (.cst (LV.int .i64 0))⟩] []) (.seq (.reg [
  ⟨(some 8), none, .mov (.tmp 0)⟩,
  ⟨(some 9), none, .call id_interpreterref06_Parse [(.tmp 8)]⟩,
  ⟨(some 7), none, .mov (.tmp 9)⟩,
  ⟨(some 10), none, .extract (.tmp 7) 0⟩,
  ⟨(some 11), none, .extract (.tmp 7) 1⟩,
  ⟨(some 5), none, .alloc (LV.agg [(LV.int .i64 0), (LV.int .i64 0), (LV.int .i64 0), (LV.str [])])⟩,
  ⟨none, none, .store 4 true (.tmp 5) (.tmp 10)⟩,
  ⟨(some 6), none, .mov (.tmp 11)⟩] []) (.seq (.seq (.reg [
  ⟨(some 12), none, .mov (.tmp 6)⟩,
  ⟨(some 13), none, .bin .neq (.tmp 12) (.cst (LV.int .i64 0))⟩] []) (.cond (.tmp 13) (.seq (.reg [
  ⟨(some 14), none, .mov (.tmp 6)⟩,
  ⟨(some 4), none, .mov (.tmp 14)⟩] []) .ret) .skip)) (.seq (.seq (.reg [
  ⟨(some 15), none, .mov (.tmp 1)⟩,
  ⟨(some 16), none, .mov (.tmp 0)⟩,
  ⟨(some 17), none, .bin .add (.tmp 15) (.tmp 16)⟩,
  ⟨(some 18), none, .call id_interpreterref02_Of [(.tmp 17)]⟩,
  ⟨(some 19), none, .bin .neq (.tmp 18) (.cst (LV.int .i64 0))⟩] []) (.cond (.tmp 19) (.seq (.reg [
  ⟨(some 4), none, .mov (.cst (LV.int .i64 9))⟩] []) .ret) .skip)) (.seq (.reg [
  ⟨(some 4), none, .mov (.cst (LV.int .i64 0))⟩] []) .ret))))), [.tmp 4]⟩
/-- interpreter/sum.Update -/
def c_sum_Update : MFn := ⟨3, 21, (.seq (.reg [
  ⟨(some 6), none, .mov (.cst (LV.int .i64 0))⟩] []) (.seq (.reg [
  ⟨(some 8), none, .mov (.tmp 0)⟩,
  ⟨(some 9), none, .bin .and (.tmp 8) (.cst (LV.int .i64 65535))⟩,
  ⟨(some 10), none, .bin .sub (.cst (LV.int .i64 65535)) (.tmp 9)⟩,
  ⟨(some 7), none, .mov (.tmp 10)⟩] []) (.seq (.reg [
  ⟨(some 11), none, .mov (.tmp 7)⟩,
  ⟨(some 12), none, .mov (.tmp 1)⟩,
  ⟨(some 13), none, .call id_sum_even [(.tmp 12)]⟩,
  ⟨(some 14), none, .call id_sum_add [(.tmp 11), (.cst (LV.int .i64 0)), (.tmp 13), (.cst (LV.int .u8 255))]⟩,
  ⟨(some 15), none, .call id_sum_fold [(.tmp 14)]⟩,
  ⟨(some 7), none, .mov (.tmp 15)⟩] []) (.seq (.reg [
  ⟨(some 16), none, .mov (.tmp 7)⟩,
  ⟨(some 17), none, .mov (.tmp 2)⟩,
  ⟨(some 18), none, .call id_sum_add [(.tmp 16), (.cst (LV.int .i64 0)), (.tmp 17), (.cst (LV.int .u8 0))]⟩,
  ⟨(some 19), none, .call id_sum_fold [(.tmp 18)]⟩,
  ⟨(some 20), none, .bin .sub (.cst (LV.int .i64 65535)) (.tmp 19)⟩,
  ⟨(some 6), none, .mov (.tmp 20)⟩] []) .ret)))), [.tmp 6]⟩
/-- interpreter/num.Big -/
def c_num_Big : MFn := ⟨2, 55, (.seq (.reg [
  ⟨(some 4), none, .mov (.cst (LV.str []))⟩,
  ⟨(some 5), none, .mov (.cst LV.nili)⟩] []) (.seq (.block 0 (.seq (.reg [
  ⟨(some 9), none, .mov (.tmp 1)⟩,
  ⟨(some 10), none, .bin .neq (.tmp 9) (.cst (LV.int .i64 1))⟩,
  ⟨(some 11), none, .mov (.tmp 10)⟩,
  ⟨(some 12), (some (11, true)), .mov (.tmp 1)⟩,
  ⟨(some 13), (some (11, true)), .bin .neq (.tmp 12) (.cst (LV.int .i64 2))⟩,
  ⟨(some 14), none, .pick (.tmp 11) (.tmp 13) (.cst (LV.bool false))⟩,
  ⟨(some 15), none, .mov (.tmp 14)⟩,
  ⟨(some 16), (some (15, true)), .mov (.tmp 1)⟩,
  ⟨(some 17), (some (15, true)), .bin .neq (.tmp 16) (.cst (LV.int .i64 4))⟩,
  ⟨(some 18), none, .pick (.tmp 15) (.tmp 17) (.cst (LV.bool false))⟩,
  ⟨(some 8), none, .mov (.tmp 18)⟩] []) (.cond (.tmp 8) (.seq (.reg [
  ⟨(some 19), none, .build (LV.agg [(LV.int .i64 0), (LV.int .i64 0)]) [(0, (.cst (LV.int .i64 1)))]⟩,
  ⟨(some 20), none, .box (.tmp 19)⟩,
  ⟨(some 21), none, .mkIface ty_ptr_num_Fault (.tmp 20)⟩,
  ⟨(some 4), none, .mov (.cst (LV.str []))⟩,
  ⟨(some 5), none, .mov (.tmp 21)⟩] []) .ret) (.seq (.reg [
  ⟨(some 23), none, .mov (.tmp 0)⟩,
  ⟨(some 24), none, .bin .lss (.tmp 23) (.cst (LV.int .i64 0))⟩,
  ⟨(some 25), none, .mov (.tmp 24)⟩,
  ⟨(some 26), (some (25, false)), .mov (.tmp 0)⟩,
  ⟨(some 27), (some (25, false)), .mov (.tmp 1)⟩,
  ⟨(some 28), (some (25, false)), .bin .mul (.cst (LV.int .i64 8)) (.tmp 27)⟩,
  ⟨(some 29), (some (25, false)), .bin .shl (.cst (LV.int .i64 1)) (.tmp 28)⟩,
  ⟨(some 30), (some (25, false)), .bin .geq (.tmp 26) (.tmp 29)⟩,
  ⟨(some 31), none, .pick (.tmp 25) (.cst (LV.bool true)) (.tmp 30)⟩,
  ⟨(some 22), none, .mov (.tmp 31)⟩] []) (.cond (.tmp 22) (.seq (.reg [
  ⟨(some 32), none, .build (LV.agg [(LV.int .i64 0), (LV.int .i64 0)]) [(0, (.cst (LV.int .i64 13)))]⟩,
  ⟨(some 33), none, .box (.tmp 32)⟩,
  ⟨(some 34), none, .mkIface ty_ptr_num_Fault (.tmp 33)⟩,
  ⟨(some 4), none, .mov (.cst (LV.str []))⟩,
  ⟨(some 5), none, .mov (.tmp 34)⟩] []) .ret) .skip))))) (.seq (.reg [
  ⟨(some 35), none, .mov (.tmp 1)⟩,
  ⟨(some 36), none, .mkSl (.tmp 35) (.tmp 35)⟩,
  ⟨(some 6), none, .mov (.tmp 36)⟩] []) (.seq (.seq (.reg [
  ⟨(some 37), none, .mov (.tmp 1)⟩,
  ⟨(some 38), none, .mov (.cst (LV.int .i64 0))⟩] []) (.block 1 (.loop [38] [39, 40, 7, 41, 42, 43, 44, 45, 46, 47, 48, 49, 50, 51, 52] (.seq (.reg [
  ⟨(some 39), none, .bin .lss (.tmp 38) (.tmp 37)⟩] []) (.seq (.cond (.tmp 39) .skip (.exit 1)) (.seq (.block 2 (.seq (.reg [
  ⟨(some 40), none, .mov (.tmp 38)⟩,
  ⟨(some 7), none, .mov (.tmp 40)⟩] []) (.reg [
  ⟨(some 41), none, .mov (.tmp 6)⟩,
  ⟨(some 42), none, .mov (.tmp 7)⟩,
  ⟨(some 43), none, .mov (.tmp 0)⟩,
  ⟨(some 44), none, .mov (.tmp 1)⟩,
  ⟨(some 45), none, .bin .sub (.tmp 44) (.cst (LV.int .i64 1))⟩,
  ⟨(some 46), none, .mov (.tmp 7)⟩,
  ⟨(some 47), none, .bin .sub (.tmp 45) (.tmp 46)⟩,
  ⟨(some 48), none, .bin .mul (.cst (LV.int .i64 8)) (.tmp 47)⟩,
  ⟨(some 49), none, .bin .shr (.tmp 43) (.tmp 48)⟩,
  ⟨(some 50), none, .conv .u8 (.tmp 49)⟩,
  ⟨(some 51), none, .idxAddr none 1 (.tmp 41) (.tmp 42)⟩,
  ⟨none, none, .store 1 false (.tmp 51) (.tmp 50)⟩] []))) (.reg [
  ⟨(some 52), none, .bin .add (.tmp 38) (.cst (LV.int .i64 1))⟩,
  ⟨(some 38), none, .mov (.tmp 52)⟩] []))))))) (.seq (.reg [
  ⟨(some 53), none, .mov (.tmp 6)⟩,
  ⟨(some 54), none, .b2s (.tmp 53)⟩,
  ⟨(some 4), none, .mov (.tmp 54)⟩,
  ⟨(some 5), none, .mov (.cst LV.nili)⟩] []) .ret))))), [.tmp 4, .tmp 5]⟩
/-- interpreter/udp.fault -/
def c_udp_fault : MFn := ⟨1, 7, (.seq (.reg [
  ⟨(some 2), none, .mov (.cst LV.nili)⟩] []) (.seq (.reg [
  ⟨(some 3), none, .mov (.tmp 0)⟩,
  ⟨(some 4), none, .build (LV.agg [(LV.int .i64 0), (LV.int .i64 0)]) [(0, (.tmp 3))]⟩,
  ⟨(some 5), none, .box (.tmp 4)⟩,
  ⟨(some 6), none, .mkIface ty_ptr_num_Fault (.tmp 5)⟩,
  ⟨(some 2), none, .mov (.tmp 6)⟩] []) .ret)), [.tmp 2]⟩
/-- interpreter/sum.Of -/
def c_sum_Of : MFn := ⟨1, 25, (.seq (.reg [
  ⟨(some 2), none, .mov (.cst (LV.int .i64 0))⟩] []) (.seq (.reg [
  ⟨(some 3), none, .mov (.cst (LV.int .i64 0))⟩,
  ⟨(some 4), none, .mov (.cst (LV.int .i64 0))⟩] []) (.seq (.seq (.reg [
  ⟨(some 7), none, .mov (.tmp 0)⟩,
  ⟨(some 8), none, .len false (.tmp 7)⟩,
  ⟨(some 9), none, .mov (.cst (LV.int .i64 0))⟩] []) (.block 0 (.loop [3, 4, 9] [10, 11, 12, 6, 13, 14, 15, 16, 17, 18, 19, 20, 21, 22] (.seq (.reg [
  ⟨(some 10), none, .bin .lss (.tmp 9) (.tmp 8)⟩] []) (.seq (.cond (.tmp 10) .skip (.exit 0)) (.seq (.block 1 (.seq (.reg [
  ⟨(some 11), none, .idxAddr none 1 (.tmp 7) (.tmp 9)⟩,
  ⟨(some 12), none, .load 1 false (.tmp 11)⟩,
  ⟨(some 6), none, .mov (.tmp 12)⟩] []) (.seq (.reg [
  ⟨(some 13), none, .mov (.tmp 3)⟩,
  ⟨(some 14), none, .mov (.tmp 4)⟩,
  ⟨(some 15), none, .mov (.tmp 6)⟩,
  ⟨(some 16), none, .call id_sum_add [(.tmp 13), (.tmp 14), (.tmp 15), (.cst (LV.int .u8 0))]⟩,
  ⟨(some 17), none, .call id_sum_fold [(.tmp 16)]⟩,
  ⟨(some 3), none, .mov (.tmp 17)⟩] []) (.reg [
  ⟨(some 18), none, .mov (.tmp 4)⟩,
  ⟨(some 19), none, .mov (.tmp 6)⟩,
  ⟨(some 20), none, .len true (.tmp 19)⟩,
  ⟨(some 21), none, .bin .add (.tmp 18) (.tmp 20)⟩,
  ⟨(some 4), none, .mov (.tmp 21)⟩] [])))) (.reg [
  ⟨(some 22), none, .bin .add (.tmp 9) (.cst (LV.int .i64 1))⟩,
  ⟨(some 9), none, .mov (.tmp 22)⟩] []))))))) (.seq (.reg [
  ⟨(some 23), none, .mov (.tmp 3)⟩,
  ⟨(some 24), none, .bin .sub (.cst (LV.int .i64 65535)) (.tmp 23)⟩,
  ⟨(some 2), none, .mov (.tmp 24)⟩] []) .ret)))), [.tmp 2]⟩
/-- interpreter/interpreterref05.two -/
def c_interpreterref05_two : MFn := ⟨1, 11, (.seq (.reg [
  ⟨(some 2), none, .mov (.cst (LV.str []))⟩] []) (.seq (.reg [
  ⟨(some 3), none, .mov (.tmp 0)⟩,
  ⟨(some 4), none, .bin .quo (.tmp 3) (.cst (LV.int .i64 256))⟩,
  ⟨(some 5), none, .conv .u8 (.tmp 4)⟩,
  ⟨(some 6), none, .mov (.tmp 0)⟩,
  ⟨(some 7), none, .bin .rem (.tmp 6) (.cst (LV.int .i64 256))⟩,
  ⟨(some 8), none, .conv .u8 (.tmp 7)⟩,
  ⟨(some 9), none, .bsl (LV.int .u8 0) 2 [(0, (.tmp 5)), (1, (.tmp 8))]⟩,
  ⟨(some 10), none, .b2s (.tmp 9)⟩,
  ⟨(some 2), none, .mov (.tmp 10)⟩] []) .ret)), [.tmp 2]⟩
/-- interpreter/interpreterref02.Of -/
def c_interpreterref02_Of : MFn := ⟨1, 7, (.seq (.reg [
  ⟨(some 2), none, .mov (.cst (LV.int .i64 0))⟩] []) (.seq (.reg [
  ⟨(some 3), none, .mov (.tmp 0)⟩,
  ⟨(some 4), none, .call id_interpreterref02_Words [(.tmp 3)]⟩,
  ⟨(some 5), none, .call id_interpreterref02_Total [(.tmp 4)]⟩,
  ⟨(some 6), none, .bin .sub (.cst (LV.int .i64 65535)) (.tmp 5)⟩,
  ⟨(some 2), none, .mov (.tmp 6)⟩] []) .ret)), [.tmp 2]⟩
/-- interpreter/udp.two -/
def c_udp_two : MFn := ⟨2, 16, (.seq (.reg [
  ⟨(some 4), none, .mov (.cst (LV.int .i64 0))⟩] []) (.seq (.reg [
  ⟨(some 5), none, .mov (.tmp 0)⟩,
  ⟨(some 6), none, .mov (.tmp 1)⟩,
  ⟨(some 7), none, .idxStr (.tmp 5) (.tmp 6)⟩,
  ⟨(some 8), none, .conv .i64 (.tmp 7)⟩,
  ⟨(some 9), none, .bin .shl (.tmp 8) (.cst (LV.int .u64 8))⟩,
  ⟨(some 10), none, .mov (.tmp 0)⟩,
  ⟨(some 11), none, .mov (.tmp 1)⟩,
  ⟨(some 12), none, .bin .add (.tmp 11) (.cst (LV.int .i64 1))⟩,
  ⟨(some 13), none, .idxStr (.tmp 10) (.tmp 12)⟩,
  ⟨(some 14), none, .conv .i64 (.tmp 13)⟩,
  ⟨(some 15), none, .bin .or (.tmp 9) (.tmp 14)⟩,
  ⟨(some 4), none, .mov (.tmp 15)⟩] []) .ret)), [.tmp 4]⟩
/-- interpreter/interpreterref02.Words -/
def c_interpreterref02_Words : MFn := ⟨1, 34, (.seq (.reg [
  ⟨(some 2), none, .mov (.cst LV.nils)⟩] []) (.seq (.reg [
  ⟨(some 3), none, .nilT 1⟩] []) (.seq (.seq (.reg [
  ⟨(some 5), none, .mov (.tmp 0)⟩,
  ⟨(some 6), none, .len true (.tmp 5)⟩,
  ⟨(some 7), none, .bin .rem (.tmp 6) (.cst (LV.int .i64 2))⟩,
  ⟨(some 8), none, .bin .eql (.tmp 7) (.cst (LV.int .i64 1))⟩] []) (.cond (.tmp 8) (.reg [
  ⟨(some 9), none, .mov (.tmp 0)⟩,
  ⟨(some 10), none, .bsl (LV.int .u8 0) 1 [(0, (.cst (LV.int .u8 0)))]⟩,
  ⟨(some 11), none, .b2s (.tmp 10)⟩,
  ⟨(some 12), none, .bin .add (.tmp 9) (.tmp 11)⟩,
  ⟨(some 0), none, .mov (.tmp 12)⟩] []) .skip)) (.seq (.seq (.reg [
  ⟨(some 4), none, .mov (.cst (LV.int .i64 0))⟩] []) (.block 0 (.loop [3, 4] [13, 14, 15, 16, 19, 20, 21, 22, 23, 24, 25, 26, 27, 28, 29, 30, 31, 32, 17, 18] (.seq (.seq (.reg [
  ⟨(some 13), none, .mov (.tmp 4)⟩,
  ⟨(some 14), none, .mov (.tmp 0)⟩,
  ⟨(some 15), none, .len true (.tmp 14)⟩,
  ⟨(some 16), none, .bin .lss (.tmp 13) (.tmp 15)⟩] []) (.cond (.tmp 16) .skip (.exit 0))) (.seq (.block 1 (.reg [
  ⟨(some 19), none, .mov (.tmp 3)⟩,
  ⟨(some 20), none, .mov (.tmp 0)⟩,
  ⟨(some 21), none, .mov (.tmp 4)⟩,
  ⟨(some 22), none, .idxStr (.tmp 20) (.tmp 21)⟩,
  ⟨(some 23), none, .conv .i64 (.tmp 22)⟩,
  ⟨(some 24), none, .bin .mul (.cst (LV.int .i64 256)) (.tmp 23)⟩,
  ⟨(some 25), none, .mov (.tmp 0)⟩,
  ⟨(some 26), none, .mov (.tmp 4)⟩,
  ⟨(some 27), none, .bin .add (.tmp 26) (.cst (LV.int .i64 1))⟩,
  ⟨(some 28), none, .idxStr (.tmp 25) (.tmp 27)⟩,
  ⟨(some 29), none, .conv .i64 (.tmp 28)⟩,
  ⟨(some 30), none, .bin .add (.tmp 24) (.tmp 29)⟩,
  ⟨(some 31), none, .bsl (LV.int .i64 0) 1 [(0, (.tmp 30))]⟩,
  ⟨(some 32), none, .append 1 8 (.tmp 19) (.tmp 31)⟩,
  ⟨(some 3), none, .mov (.tmp 32)⟩] [])) (.reg [
  ⟨(some 17), none, .mov (.tmp 4)⟩,
  ⟨(some 18), none, .bin .add (.tmp 17) (.cst (LV.int .i64 2))⟩,
  ⟨(some 4), none, .mov (.tmp 18)⟩] [])))))) (.seq (.reg [
  ⟨(some 33), none, .mov (.tmp 3)⟩,
  ⟨(some 2), none, .mov (.tmp 33)⟩] []) .ret))))), [.tmp 2]⟩
/-- interpreter/tcp.fault -/
def c_tcp_fault : MFn := ⟨1, 7, (.seq (.reg [
  ⟨(some 2), none, .mov (.cst LV.nili)⟩] []) (.seq (.reg [
  ⟨(some 3), none, .mov (.tmp 0)⟩,
  ⟨(some 4), none, .build (LV.agg [(LV.int .i64 0), (LV.int .i64 0)]) [(0, (.tmp 3))]⟩,
  ⟨(some 5), none, .box (.tmp 4)⟩,
  ⟨(some 6), none, .mkIface ty_ptr_num_Fault (.tmp 5)⟩,
  ⟨(some 2), none, .mov (.tmp 6)⟩] []) .ret)), [.tmp 2]⟩
/-- interpreter/tcp.two -/
def c_tcp_two : MFn := ⟨2, 16, (.seq (.reg [
  ⟨(some 4), none, .mov (.cst (LV.int .i64 0))⟩] []) (.seq (.reg [
  ⟨(some 5), none, .mov (.tmp 0)⟩,
  ⟨(some 6), none, .mov (.tmp 1)⟩,
  ⟨(some 7), none, .idxStr (.tmp 5) (.tmp 6)⟩,
  ⟨(some 8), none, .conv .i64 (.tmp 7)⟩,
  ⟨(some 9), none, .bin .shl (.tmp 8) (.cst (LV.int .u64 8))⟩,
  ⟨(some 10), none, .mov (.tmp 0)⟩,
  ⟨(some 11), none, .mov (.tmp 1)⟩,
  ⟨(some 12), none, .bin .add (.tmp 11) (.cst (LV.int .i64 1))⟩,
  ⟨(some 13), none, .idxStr (.tmp 10) (.tmp 12)⟩,
  ⟨(some 14), none, .conv .i64 (.tmp 13)⟩,
  ⟨(some 15), none, .bin .or (.tmp 9) (.tmp 14)⟩,
  ⟨(some 4), none, .mov (.tmp 15)⟩] []) .ret)), [.tmp 4]⟩
/-- interpreter/sum.fold -/
def c_sum_fold : MFn := ⟨1, 11, (.seq (.reg [
  ⟨(some 2), none, .mov (.cst (LV.int .i64 0))⟩] []) (.seq (.block 0 (.loop [0] [3, 4, 5, 6, 7, 8, 9] (.seq (.seq (.reg [
  ⟨(some 3), none, .mov (.tmp 0)⟩,
  ⟨(some 4), none, .bin .gtr (.tmp 3) (.cst (LV.int .i64 65535))⟩] []) (.cond (.tmp 4) .skip (.exit 0))) (.block 1 (.reg [
  ⟨(some 5), none, .mov (.tmp 0)⟩,
  ⟨(some 6), none, .bin .shr (.tmp 5) (.cst (LV.int .u64 16))⟩,
  ⟨(some 7), none, .mov (.tmp 0)⟩,
  ⟨(some 8), none, .bin .and (.tmp 7) (.cst (LV.int .i64 65535))⟩,
  ⟨(some 9), none, .bin .add (.tmp 6) (.tmp 8)⟩,
  ⟨(some 0), none, .mov (.tmp 9)⟩] []))))) (.seq (.reg [
  ⟨(some 10), none, .mov (.tmp 0)⟩,
  ⟨(some 2), none, .mov (.tmp 10)⟩] []) .ret))), [.tmp 2]⟩
/-- interpreter/sum.add -/
def c_sum_add : MFn := ⟨4, 34, (.seq (.reg [
  ⟨(some 8), none, .mov (.cst (LV.int .i64 0))⟩] []) (.seq (.seq (.reg [
  ⟨(some 11), none, .mov (.tmp 2)⟩,
  ⟨(some 12), none, .len true (.tmp 11)⟩,
  ⟨(some 13), none, .mov (.cst (LV.int .i64 0))⟩] []) (.block 0 (.loop [0, 13] [14, 15, 9, 16, 17, 18, 19, 20, 21, 10, 22, 23, 24, 25, 26, 27, 28, 29, 30, 31, 32] (.seq (.reg [
  ⟨(some 14), none, .bin .lss (.tmp 13) (.tmp 12)⟩] []) (.seq (.cond (.tmp 14) .skip (.exit 0)) (.seq (.block 1 (.seq (.reg [
  ⟨(some 15), none, .mov (.tmp 13)⟩,
  ⟨(some 9), none, .mov (.tmp 15)⟩] []) (.seq (.reg [
  ⟨(some 16), none, .mov (.tmp 2)⟩,
  ⟨(some 17), none, .mov (.tmp 9)⟩,
  ⟨(some 18), none, .idxStr (.tmp 16) (.tmp 17)⟩,
  ⟨(some 19), none, .mov (.tmp 3)⟩,
  ⟨(some 20), none, .bin .xor (.tmp 18) (.tmp 19)⟩,
  ⟨(some 21), none, .conv .i64 (.tmp 20)⟩,
  ⟨(some 10), none, .mov (.tmp 21)⟩] []) (.seq (.seq (.reg [
  ⟨(some 22), none, .mov (.tmp 1)⟩,
  ⟨(some 23), none, .mov (.tmp 9)⟩,
  ⟨(some 24), none, .bin .add (.tmp 22) (.tmp 23)⟩,
  ⟨(some 25), none, .bin .rem (.tmp 24) (.cst (LV.int .i64 2))⟩,
  ⟨(some 26), none, .bin .eql (.tmp 25) (.cst (LV.int .i64 0))⟩] []) (.cond (.tmp 26) (.reg [
  ⟨(some 27), none, .mov (.tmp 10)⟩,
  ⟨(some 28), none, .bin .shl (.tmp 27) (.cst (LV.int .u64 8))⟩,
  ⟨(some 10), none, .mov (.tmp 28)⟩] []) .skip)) (.reg [
  ⟨(some 29), none, .mov (.tmp 0)⟩,
  ⟨(some 30), none, .mov (.tmp 10)⟩,
  ⟨(some 31), none, .bin .add (.tmp 29) (.tmp 30)⟩,
  ⟨(some 0), none, .mov (.tmp 31)⟩] []))))) (.reg [
  ⟨(some 32), none, .bin .add (.tmp 13) (.cst (LV.int .i64 1))⟩,
  ⟨(some 13), none, .mov (.tmp 32)⟩] []))))))) (.seq (.reg [
  ⟨(some 33), none, .mov (.tmp 0)⟩,
  ⟨(some 8), none, .mov (.tmp 33)⟩] []) .ret))), [.tmp 8]⟩
/-- interpreter/sum.even -/
def c_sum_even : MFn := ⟨1, 10, (.seq (.reg [
  ⟨(some 2), none, .mov (.cst (LV.str []))⟩] []) (.seq (.seq (.reg [
  ⟨(some 3), none, .mov (.tmp 0)⟩,
  ⟨(some 4), none, .len true (.tmp 3)⟩,
  ⟨(some 5), none, .bin .rem (.tmp 4) (.cst (LV.int .i64 2))⟩,
  ⟨(some 6), none, .bin .eql (.tmp 5) (.cst (LV.int .i64 1))⟩] []) (.cond (.tmp 6) (.reg [
  ⟨(some 7), none, .mov (.tmp 0)⟩,
  ⟨(some 8), none, .bin .add (.tmp 7) (.cst (LV.str [0]))⟩,
  ⟨(some 0), none, .mov (.tmp 8)⟩] []) .skip)) (.seq (.reg [
  ⟨(some 9), none, .mov (.tmp 0)⟩,
  ⟨(some 2), none, .mov (.tmp 9)⟩] []) .ret))), [.tmp 2]⟩
/-- interpreter/interpreterref02.Total -/
def c_interpreterref02_Total : MFn := ⟨1, 25, (.seq (.reg [
  ⟨(some 2), none, .mov (.cst (LV.int .i64 0))⟩] []) (.seq (.reg [
  ⟨(some 3), none, .mov (.cst (LV.int .i64 0))⟩] []) (.seq (.seq (.reg [
  ⟨(some 4), none, .mov (.cst (LV.int .i64 0))⟩] []) (.block 0 (.loop [3, 4] [5, 6, 7, 8, 11, 12, 13, 14, 15, 16, 9, 10] (.seq (.seq (.reg [
  ⟨(some 5), none, .mov (.tmp 4)⟩,
  ⟨(some 6), none, .mov (.tmp 0)⟩,
  ⟨(some 7), none, .len false (.tmp 6)⟩,
  ⟨(some 8), none, .bin .lss (.tmp 5) (.tmp 7)⟩] []) (.cond (.tmp 8) .skip (.exit 0))) (.seq (.block 1 (.reg [
  ⟨(some 11), none, .mov (.tmp 3)⟩,
  ⟨(some 12), none, .mov (.tmp 0)⟩,
  ⟨(some 13), none, .mov (.tmp 4)⟩,
  ⟨(some 14), none, .idxAddr none 1 (.tmp 12) (.tmp 13)⟩,
  ⟨(some 15), none, .load 1 false (.tmp 14)⟩,
  ⟨(some 16), none, .bin .add (.tmp 11) (.tmp 15)⟩,
  ⟨(some 3), none, .mov (.tmp 16)⟩] [])) (.reg [
  ⟨(some 9), none, .mov (.tmp 4)⟩,
  ⟨(some 10), none, .bin .add (.tmp 9) (.cst (LV.int .i64 1))⟩,
  ⟨(some 4), none, .mov (.tmp 10)⟩] [])))))) (.seq (.block 2 (.loop [3] [17, 18, 19, 20, 21, 22, 23] (.seq (.seq (.reg [
  ⟨(some 17), none, .mov (.tmp 3)⟩,
  ⟨(some 18), none, .bin .gtr (.tmp 17) (.cst (LV.int .i64 65535))⟩] []) (.cond (.tmp 18) .skip (.exit 2))) (.block 3 (.reg [
  ⟨(some 19), none, .mov (.tmp 3)⟩,
  ⟨(some 20), none, .bin .quo (.tmp 19) (.cst (LV.int .i64 65536))⟩,
  ⟨(some 21), none, .mov (.tmp 3)⟩,
  ⟨(some 22), none, .bin .rem (.tmp 21) (.cst (LV.int .i64 65536))⟩,
  ⟨(some 23), none, .bin .add (.tmp 20) (.tmp 22)⟩,
  ⟨(some 3), none, .mov (.tmp 23)⟩] []))))) (.seq (.reg [
  ⟨(some 24), none, .mov (.tmp 3)⟩,
  ⟨(some 2), none, .mov (.tmp 24)⟩] []) .ret))))), [.tmp 2]⟩

end Go.Ev
