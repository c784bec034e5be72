/- Part 3 of a proof: what the functions yield. It stands by itself; no condition. -/
import Derived.Test.YtbepgpjmdlnehaaDoorE0
namespace Go.Ev
set_option linter.unusedVariables false
set_option maxRecDepth 100000
def id_main_main : Nat := 0
def id_gosem_cut : Nat := 1
def id_gosem_cut_init : Nat := 2
def id_interpreterlaw05_UdpLengths : Nat := 3
def id_interpreterlaw05_awake : Nat := 4
def id_udp_Parse : Nat := 5
def id_num_Code : Nat := 6
def id_udp_Check : Nat := 7
def id_udp_Bytes : Nat := 8
def id_udp_fault : Nat := 9
def id_udp_two : Nat := 10
def id_errors_As : Nat := 11
def id_sum_Right : Nat := 12
def id_num_Big : Nat := 13
def id_sum_Of : Nat := 14
def id_internal_reflectlite_ValueOf : Nat := 15
def id_internal_reflectlite_Value_Type : Nat := 16
def id_internal_reflectlite_Value_IsNil : Nat := 17
def id_errors_as : Nat := 18
def id_sum_fold : Nat := 19
def id_sum_add : Nat := 20
def id_internal_reflectlite_TypeOf : Nat := 21
def id_internal_reflectlite_Value_Elem : Nat := 22
def id_internal_reflectlite_Value_Set : Nat := 23
def id_runtime_boundsError_Error : Nat := 24
def id_runtime_boundsError_RuntimeError : Nat := 25
def id_runtime_errorString_Error : Nat := 26
def id_runtime_errorString_RuntimeError : Nat := 27
def id_runtime_plainError_Error : Nat := 28
def id_runtime_plainError_RuntimeError : Nat := 29
def id_runtime_errorAddressString_Error : Nat := 30
def id_runtime_errorAddressString_RuntimeError : Nat := 31
def id_runtime_TypeAssertionError_Error : Nat := 32
def id_runtime_TypeAssertionError_RuntimeError : Nat := 33
def id_runtime_PanicNilError_Error : Nat := 34
def id_runtime_PanicNilError_RuntimeError : Nat := 35
def id_internal_abi_Type_Align : Nat := 36
def id_internal_abi_Type_Elem : Nat := 37
def id_internal_abi_Type_Kind : Nat := 38
def id_internal_runtime_maps_unhashableTypeError_Error : Nat := 39
def id_internal_runtime_maps_unhashableTypeError_RuntimeError : Nat := 40
def id_num_Fault_Error : Nat := 41
def id_internal_reflectlite_flag_mustBeAssignable : Nat := 42
def id_internal_reflectlite_Value_Kind : Nat := 43
def id_internal_abi_Kind_String : Nat := 44
def id_internal_abi_Type_Size : Nat := 45
def id_internal_reflectlite_rtype_AssignableTo : Nat := 46
def id_internal_reflectlite_rtype_Comparable : Nat := 47
def id_internal_reflectlite_rtype_Elem : Nat := 48
def id_internal_reflectlite_rtype_Implements : Nat := 49
def id_internal_reflectlite_rtype_Name : Nat := 50
def id_internal_reflectlite_rtype_PkgPath : Nat := 51
def id_internal_reflectlite_rtype_String : Nat := 52
def id_internal_reflectlite_rtype_common : Nat := 53
def id_internal_reflectlite_rtype_uncommon : Nat := 54
def id_internal_reflectlite_ValueError_Error : Nat := 55
def id_internal_abi_UncommonType_ExportedMethods : Nat := 56
def id_var_s_door_errors_errorType_is_laid_by_its_own_call_of_reflectlite_TypeOf_on_a_nil_pointer_and_Elem_of_it_handle_1 : Nat := 57
def id_var_s_door_gosem_cut_vars_holds_initialisers_alone_see_the_manifest_s_row_cutvarsword_look_11_test_files_too : Nat := 58
def id_var_s_door_the_look_of_gosem_cut_vars_went_over_the_folder_that_the_caller_named_as_the_repository_s_root_look_11 : Nat := 59
def id_gosem_cut_vars : Nat := 60
def ty_ : Nat := 0
def ty_func : Nat := 1
def ty_int64 : Nat := 2
def ty_int : Nat := 3
def ty_bool : Nat := 4
def ty_uint8 : Nat := 5
def ty_abi_BoundsErrorCode : Nat := 6
def ty_struct_x_int64_y_int_signed_bool_code_abi_BoundsErrorCode : Nat := 7
def ty_runtime_boundsError : Nat := 8
def ty_string : Nat := 9
def ty_runtime_errorString : Nat := 10
def ty_runtime_plainError : Nat := 11
def ty_uintptr : Nat := 12
def ty_struct_msg_string_addr_uintptr : Nat := 13
def ty_runtime_errorAddressString : Nat := 14
def ty_ptr_runtime_TypeAssertionError : Nat := 15
def ty_ptr_runtime_PanicNilError : Nat := 16
def ty_ptr_abi_Type : Nat := 17
def ty_struct_typ_ptr_abi_Type : Nat := 18
def ty_maps_unhashableTypeError : Nat := 19
def ty_interface : Nat := 20
def ty_int32 : Nat := 21
def ty_func_bool : Nat := 22
def ty_struct_From_int_To_int_Sum_int_Data_string : Nat := 23
def ty_api_Dgram : Nat := 24
def ty_interface_Error_string : Nat := 25
def ty_error : Nat := 26
def ty_api_Dgram_error : Nat := 27
def ty_func_string_api_Dgram_error : Nat := 28
def ty_api_Errno : Nat := 29
def ty_func_error_api_Errno : Nat := 30
def ty_func_string_string_error : Nat := 31
def ty_func_string_bool : Nat := 32
def ty_string_error : Nat := 33
def ty_func_api_Dgram_string_string_error : Nat := 34
def ty_func_api_Errno_error : Nat := 35
def ty_func_string_int_int : Nat := 36
def ty_ptr_num_Fault : Nat := 37
def ty_func_error_interface_bool : Nat := 38
def ty_ptr_ptr_num_Fault : Nat := 39
def ty_struct_Code_api_Errno_At_int : Nat := 40
def ty_num_Fault : Nat := 41
def ty_func_int_int_string_error : Nat := 43
def ty_func_string_int : Nat := 44
def ty_uint : Nat := 45
def ty_unsafe_Pointer : Nat := 46
def ty_reflectlite_flag : Nat := 47
def ty_struct_typ_ptr_abi_Type_ptr_unsafe_Pointer_reflectlite_flag : Nat := 48
def ty_reflectlite_Value : Nat := 49
def ty_func_interface_reflectlite_Value : Nat := 50
def ty_interface_AssignableTo_reflectlite_Type_bool_Comparable_bool_Elem_reflectlite_Type_Implements_reflectlite_Type_bool_Kind_abi_Kind_Name_string_PkgPath_string_Size_uintptr_String_string_reflectlite_common_ptr_abi_Type_reflectlite_uncommon_ptr_abi_UncommonType : Nat := 51
def ty_reflectlite_Type : Nat := 52
def ty_func_reflectlite_Type : Nat := 53
def ty_abi_Kind : Nat := 54
def ty_func_abi_Kind : Nat := 55
def ty_func_reflectlite_Type_bool : Nat := 56
def ty_func_error_interface_reflectlite_Value_reflectlite_Type_bool : Nat := 57
def ty_slice_string : Nat := 58
def ty_slice_uint8 : Nat := 59
def ty_func_int_int : Nat := 60
def ty_func_int_int_string_uint8_int : Nat := 61
def ty_struct_ptr_abi_Type : Nat := 62
def ty_reflectlite_rtype : Nat := 63
def ty_ptr_reflectlite_ValueError : Nat := 64
def ty_func_interface_reflectlite_Type : Nat := 65
def ty_func_reflectlite_Value : Nat := 66
def ty_interface_As_interface_bool : Nat := 68
def ty_interface_As_interface_bool_bool : Nat := 69
def ty_func_interface_bool : Nat := 70
def ty_interface_Unwrap_error : Nat := 71
def ty_func_error : Nat := 72
def ty_interface_Unwrap_slice_error : Nat := 73
def ty_slice_error : Nat := 74
def ty_func_slice_error : Nat := 75
def ty_func_string : Nat := 76
def ty_struct_interface_ptr_abi_Type_concrete_ptr_abi_Type_asserted_ptr_abi_Type_missingMethod_string : Nat := 77
def ty_runtime_TypeAssertionError : Nat := 78
def ty_0_ptr_runtime_PanicNilError : Nat := 79
def ty_struct_0_ptr_runtime_PanicNilError : Nat := 80
def ty_runtime_PanicNilError : Nat := 81
def ty_func_int : Nat := 82
def ty_func_ptr_abi_Type : Nat := 83
def ty_uint32 : Nat := 84
def ty_abi_TFlag : Nat := 85
def ty_func_unsafe_Pointer_unsafe_Pointer_bool : Nat := 86
def ty_ptr_uint8 : Nat := 87
def ty_abi_NameOff : Nat := 88
def ty_abi_TypeOff : Nat := 89
def ty_struct_Size_uintptr_PtrBytes_uintptr_Hash_uint32_TFlag_abi_TFlag_Align_uint8_FieldAlign_uint8_Kind_abi_Kind_Equal_func_unsafe_Pointer_unsafe_Pointer_bool_GCData_ptr_uint8_Str_abi_NameOff_PtrToThis_abi_TypeOff : Nat := 90
def ty_abi_Type : Nat := 91
def ty_func_uintptr : Nat := 92
def ty_func_ptr_abi_UncommonType : Nat := 93
def ty_struct_Method_string_Kind_abi_Kind : Nat := 94
def ty_reflectlite_ValueError : Nat := 95
def ty_ptr_abi_UncommonType : Nat := 96
def ty_func_slice_abi_Method : Nat := 97
def ty_uint16 : Nat := 98
def ty_struct_PkgPath_abi_NameOff_Mcount_uint16_Xcount_uint16_Moff_uint32_uint32 : Nat := 99
def ty_abi_UncommonType : Nat := 100
def ty_slice_abi_Method : Nat := 101
def ty_abi_TextOff : Nat := 102
def ty_struct_Name_abi_NameOff_Mtyp_abi_TypeOff_Ifn_abi_TextOff_Tfn_abi_TextOff : Nat := 103
def ty_abi_Method : Nat := 104
def ty_ptr_error : Nat := 105
def c_interpreterlaw05_UdpLengths : MFn := ⟨1, 73, (.seq (.reg [
  ⟨(some 2), none, .mov (.cst (LV.bool false))⟩] []) (.seq (.seq (.reg [
  ⟨(some 6), none, .call id_interpreterlaw05_awake []⟩,
  ⟨(some 7), none, .un .not (.tmp 6)⟩] []) (.cond (.tmp 7) (.seq (.reg [
  ⟨(some 2), none, .mov (.cst (LV.bool false))⟩] []) .ret) .skip)) (.seq (.seq (.reg [
  ⟨(some 8), none, .mov (.tmp 0)⟩,
  ⟨(some 9), none, .len true (.tmp 8)⟩,
  ⟨(some 10), none, .bin .gtr (.tmp 9) (.cst (LV.int .i64 70000))⟩] []) (.cond (.tmp 10) (.seq (.reg [
  ⟨(some 2), none, .mov (.cst (LV.bool true))⟩] []) .ret) .skip)) (.seq (.reg [
  ⟨(some 12), none, .mov (.tmp 0)⟩,
  ⟨(some 13), none, .call id_udp_Parse [(.tmp 12)]⟩,
  ⟨(some 11), none, .mov (.tmp 13)⟩,
  ⟨(some 14), none, .extract (.tmp 11) 0⟩,
  ⟨(some 15), none, .extract (.tmp 11) 1⟩,
  ⟨(some 3), none, .alloc (LV.agg [(LV.int .i64 0), (LV.int .i64 0), (LV.int .i64 0), (LV.str [])])⟩,
  ⟨none, none, .store 4 true (.tmp 3) (.tmp 14)⟩,
  ⟨(some 4), none, .mov (.tmp 15)⟩] []) (.seq (.reg [
  ⟨(some 16), none, .mov (.tmp 0)⟩,
  ⟨(some 17), none, .len true (.tmp 16)⟩,
  ⟨(some 18), none, .bin .geq (.tmp 17) (.cst (LV.int .i64 8))⟩,
  ⟨(some 19), none, .mov (.tmp 18)⟩,
  ⟨(some 20), (some (19, true)), .mov (.tmp 0)⟩,
  ⟨(some 21), (some (19, true)), .idxStr (.tmp 20) (.cst (LV.int .i64 4))⟩,
  ⟨(some 22), (some (19, true)), .conv .i64 (.tmp 21)⟩,
  ⟨(some 23), (some (19, true)), .bin .mul (.tmp 22) (.cst (LV.int .i64 256))⟩,
  ⟨(some 24), (some (19, true)), .mov (.tmp 0)⟩,
  ⟨(some 25), (some (19, true)), .idxStr (.tmp 24) (.cst (LV.int .i64 5))⟩,
  ⟨(some 26), (some (19, true)), .conv .i64 (.tmp 25)⟩,
  ⟨(some 27), (some (19, true)), .bin .add (.tmp 23) (.tmp 26)⟩,
  ⟨(some 28), (some (19, true)), .mov (.tmp 0)⟩,
  ⟨(some 29), (some (19, true)), .len true (.tmp 28)⟩,
  ⟨(some 30), (some (19, true)), .bin .eql (.tmp 27) (.tmp 29)⟩,
  ⟨(some 31), none, .pick (.tmp 19) (.tmp 30) (.cst (LV.bool false))⟩,
  ⟨(some 5), none, .mov (.tmp 31)⟩] []) (.seq (.seq (.reg [
  ⟨(some 32), none, .mov (.tmp 4)⟩,
  ⟨(some 33), none, .eqNil 1 false (.tmp 32)⟩,
  ⟨(some 34), none, .mov (.tmp 5)⟩,
  ⟨(some 35), none, .eqB true (.tmp 33) (.tmp 34)⟩] []) (.cond (.tmp 35) (.seq (.reg [
  ⟨(some 2), none, .mov (.cst (LV.bool false))⟩] []) .ret) .skip)) (.seq (.seq (.reg [
  ⟨(some 36), none, .mov (.tmp 5)⟩,
  ⟨(some 37), none, .un .not (.tmp 36)⟩] []) (.cond (.tmp 37) (.seq (.reg [
  ⟨(some 38), none, .load 4 true (.tmp 3)⟩,
  ⟨(some 39), none, .build (LV.agg [(LV.int .i64 0), (LV.int .i64 0), (LV.int .i64 0), (LV.str [])]) []⟩,
  ⟨(some 40), none, .eqS (Sh.agg [(Sh.int .i64), (Sh.int .i64), (Sh.int .i64), Sh.str]) false (.tmp 38) (.tmp 39)⟩,
  ⟨(some 41), none, .mov (.tmp 40)⟩,
  ⟨(some 42), (some (41, true)), .mov (.tmp 0)⟩,
  ⟨(some 43), (some (41, true)), .call id_udp_Check [(.tmp 42), (.cst (LV.str []))]⟩,
  ⟨(some 44), (some (41, true)), .call id_num_Code [(.tmp 43)]⟩,
  ⟨(some 45), (some (41, true)), .mov (.tmp 4)⟩,
  ⟨(some 46), (some (41, true)), .call id_num_Code [(.tmp 45)]⟩,
  ⟨(some 47), (some (41, true)), .bin .eql (.tmp 44) (.tmp 46)⟩,
  ⟨(some 48), none, .pick (.tmp 41) (.tmp 47) (.cst (LV.bool false))⟩,
  ⟨(some 2), none, .mov (.tmp 48)⟩] []) .ret) .skip)) (.seq (.reg [
  ⟨(some 49), none, .fieldAddr 3 3 (.tmp 3)⟩,
  ⟨(some 50), none, .load 1 false (.tmp 49)⟩,
  ⟨(some 51), none, .mov (.tmp 0)⟩,
  ⟨(some 52), none, .slc 0 (.tmp 51) (some (.cst (LV.int .i64 8))) none⟩,
  ⟨(some 53), none, .bin .eql (.tmp 50) (.tmp 52)⟩,
  ⟨(some 54), none, .mov (.tmp 53)⟩,
  ⟨(some 55), (some (54, true)), .fieldAddr 2 2 (.tmp 3)⟩,
  ⟨(some 56), (some (54, true)), .load 1 false (.tmp 55)⟩,
  ⟨(some 57), (some (54, true)), .bin .eql (.tmp 56) (.cst (LV.int .i64 0))⟩,
  ⟨(some 58), (some (54, true)), .mov (.tmp 0)⟩,
  ⟨(some 59), (some (54, true)), .slc 0 (.tmp 58) (some (.cst (LV.int .i64 6))) (some (.cst (LV.int .i64 8)))⟩,
  ⟨(some 60), (some (54, true)), .bin .eql (.tmp 59) (.cst (LV.str [0, 0]))⟩,
  ⟨(some 61), (some (54, true)), .eqB false (.tmp 57) (.tmp 60)⟩,
  ⟨(some 62), none, .pick (.tmp 54) (.tmp 61) (.cst (LV.bool false))⟩,
  ⟨(some 63), none, .mov (.tmp 62)⟩,
  ⟨(some 64), (some (63, true)), .mov (.tmp 0)⟩,
  ⟨(some 65), (some (63, true)), .call id_udp_Check [(.tmp 64), (.cst (LV.str []))]⟩,
  ⟨(some 66), (some (63, true)), .call id_num_Code [(.tmp 65)]⟩,
  ⟨(some 67), (some (63, true)), .bin .eql (.tmp 66) (.cst (LV.int .i64 4))⟩,
  ⟨(some 68), (some (63, true)), .fieldAddr 2 2 (.tmp 3)⟩,
  ⟨(some 69), (some (63, true)), .load 1 false (.tmp 68)⟩,
  ⟨(some 70), (some (63, true)), .bin .eql (.tmp 69) (.cst (LV.int .i64 0))⟩,
  ⟨(some 71), (some (63, true)), .eqB false (.tmp 67) (.tmp 70)⟩,
  ⟨(some 72), none, .pick (.tmp 63) (.tmp 71) (.cst (LV.bool false))⟩,
  ⟨(some 2), none, .mov (.tmp 72)⟩] []) .ret)))))))), [.tmp 2]⟩
def c_interpreterlaw05_awake : MFn := ⟨0, 30, (.seq (.reg [
  ⟨(some 0), none, .mov (.cst (LV.bool false))⟩] []) (.seq (.reg [
  ⟨(some 6), none, .build (LV.agg [(LV.int .i64 0), (LV.int .i64 0), (LV.int .i64 0), (LV.str [])]) [(0, (.cst (LV.int .i64 1))), (1, (.cst (LV.int .i64 2))), (3, (.cst (LV.str [104, 105])))]⟩,
  ⟨(some 7), none, .call id_udp_Bytes [(.tmp 6), (.cst (LV.str []))]⟩,
  ⟨(some 5), none, .mov (.tmp 7)⟩,
  ⟨(some 8), none, .extract (.tmp 5) 0⟩,
  ⟨(some 9), none, .extract (.tmp 5) 1⟩,
  ⟨(some 1), none, .mov (.tmp 8)⟩,
  ⟨(some 2), none, .mov (.tmp 9)⟩] []) (.seq (.reg [
  ⟨(some 11), none, .mov (.tmp 1)⟩,
  ⟨(some 12), none, .call id_udp_Parse [(.tmp 11)]⟩,
  ⟨(some 10), none, .mov (.tmp 12)⟩,
  ⟨(some 13), none, .extract (.tmp 10) 0⟩,
  ⟨(some 14), none, .extract (.tmp 10) 1⟩,
  ⟨(some 3), none, .alloc (LV.agg [(LV.int .i64 0), (LV.int .i64 0), (LV.int .i64 0), (LV.str [])])⟩,
  ⟨none, none, .store 4 true (.tmp 3) (.tmp 13)⟩,
  ⟨(some 4), none, .mov (.tmp 14)⟩] []) (.seq (.reg [
  ⟨(some 15), none, .mov (.tmp 2)⟩,
  ⟨(some 16), none, .eqNil 1 false (.tmp 15)⟩,
  ⟨(some 17), none, .mov (.tmp 16)⟩,
  ⟨(some 18), (some (17, true)), .mov (.tmp 4)⟩,
  ⟨(some 19), (some (17, true)), .eqNil 1 false (.tmp 18)⟩,
  ⟨(some 20), none, .pick (.tmp 17) (.tmp 19) (.cst (LV.bool false))⟩,
  ⟨(some 21), none, .mov (.tmp 20)⟩,
  ⟨(some 22), (some (21, true)), .mov (.tmp 1)⟩,
  ⟨(some 23), (some (21, true)), .bin .eql (.tmp 22) (.cst (LV.str [0, 1, 0, 2, 0, 10, 151, 137, 104, 105]))⟩,
  ⟨(some 24), none, .pick (.tmp 21) (.tmp 23) (.cst (LV.bool false))⟩,
  ⟨(some 25), none, .mov (.tmp 24)⟩,
  ⟨(some 26), (some (25, true)), .load 4 true (.tmp 3)⟩,
  ⟨(some 27), (some (25, true)), .build (LV.agg [(LV.int .i64 0), (LV.int .i64 0), (LV.int .i64 0), (LV.str [])]) [(0, (.cst (LV.int .i64 1))), (1, (.cst (LV.int .i64 2))), (2, (.cst (LV.int .i64 38793))), (3, (.cst (LV.str [104, 105])))]⟩,
  ⟨(some 28), (some (25, true)), .eqS (Sh.agg [(Sh.int .i64), (Sh.int .i64), (Sh.int .i64), Sh.str]) false (.tmp 26) (.tmp 27)⟩,
  ⟨(some 29), none, .pick (.tmp 25) (.tmp 28) (.cst (LV.bool false))⟩,
  ⟨(some 0), none, .mov (.tmp 29)⟩] []) .ret)))), [.tmp 0]⟩
def c_udp_Parse : MFn := ⟨1, 27, (.seq (.reg [
  ⟨(some 2), none, .alloc (LV.agg [(LV.int .i64 0), (LV.int .i64 0), (LV.int .i64 0), (LV.str [])])⟩,
  ⟨(some 3), none, .mov (.cst LV.nili)⟩] []) (.seq (.block 0 (.seq (.reg [
  ⟨(some 5), none, .mov (.tmp 0)⟩,
  ⟨(some 6), none, .len true (.tmp 5)⟩,
  ⟨(some 7), none, .bin .lss (.tmp 6) (.cst (LV.int .i64 8))⟩,
  ⟨(some 4), none, .mov (.tmp 7)⟩] []) (.cond (.tmp 4) (.seq (.reg [
  ⟨(some 8), none, .build (LV.agg [(LV.int .i64 0), (LV.int .i64 0), (LV.int .i64 0), (LV.str [])]) []⟩,
  ⟨(some 9), none, .call id_udp_fault [(.cst (LV.int .i64 7))]⟩,
  ⟨none, none, .store 4 true (.tmp 2) (.tmp 8)⟩,
  ⟨(some 3), none, .mov (.tmp 9)⟩] []) .ret) (.seq (.reg [
  ⟨(some 11), none, .mov (.tmp 0)⟩,
  ⟨(some 12), none, .call id_udp_two [(.tmp 11), (.cst (LV.int .i64 4))]⟩,
  ⟨(some 13), none, .mov (.tmp 0)⟩,
  ⟨(some 14), none, .len true (.tmp 13)⟩,
  ⟨(some 15), none, .bin .neq (.tmp 12) (.tmp 14)⟩,
  ⟨(some 10), none, .mov (.tmp 15)⟩] []) (.cond (.tmp 10) (.seq (.reg [
  ⟨(some 16), none, .build (LV.agg [(LV.int .i64 0), (LV.int .i64 0), (LV.int .i64 0), (LV.str [])]) []⟩,
  ⟨(some 17), none, .call id_udp_fault [(.cst (LV.int .i64 8))]⟩,
  ⟨none, none, .store 4 true (.tmp 2) (.tmp 16)⟩,
  ⟨(some 3), none, .mov (.tmp 17)⟩] []) .ret) .skip))))) (.seq (.reg [
  ⟨(some 18), none, .mov (.tmp 0)⟩,
  ⟨(some 19), none, .call id_udp_two [(.tmp 18), (.cst (LV.int .i64 0))]⟩,
  ⟨(some 20), none, .mov (.tmp 0)⟩,
  ⟨(some 21), none, .call id_udp_two [(.tmp 20), (.cst (LV.int .i64 2))]⟩,
  ⟨(some 22), none, .mov (.tmp 0)⟩,
  ⟨(some 23), none, .call id_udp_two [(.tmp 22), (.cst (LV.int .i64 6))]⟩,
  ⟨(some 24), none, .mov (.tmp 0)⟩,
  ⟨(some 25), none, .slc 0 (.tmp 24) (some (.cst (LV.int .i64 8))) none⟩,
  ⟨(some 26), none, .build (LV.agg [(LV.int .i64 0), (LV.int .i64 0), (LV.int .i64 0), (LV.str [])]) [(0, (.tmp 19)), (1, (.tmp 21)), (2, (.tmp 23)), (3, (.tmp 25))]⟩,
  ⟨none, none, .store 4 true (.tmp 2) (.tmp 26)⟩,
  ⟨(some 3), none, .mov (.cst LV.nili)⟩] []) .ret))), [.cell 2 4 true, .tmp 3]⟩
def c_udp_Check : MFn := ⟨2, 28, (.seq (.reg [
  ⟨(some 4), none, .mov (.cst LV.nili)⟩] []) (.seq (.reg [
  ⟨(some 8), none, .mov (.tmp 0)⟩,
  ⟨(some 9), none, .call id_udp_Parse [(.tmp 8)]⟩,
  ⟨(some 7), none, .mov (.tmp 9)⟩,
  ⟨(some 10), none, .extract (.tmp 7) 0⟩,
  ⟨(some 11), none, .extract (.tmp 7) 1⟩,
  ⟨(some 5), none, .alloc (LV.agg [(LV.int .i64 0), (LV.int .i64 0), (LV.int .i64 0), (LV.str [])])⟩,
  ⟨none, none, .store 4 true (.tmp 5) (.tmp 10)⟩,
  ⟨(some 6), none, .mov (.tmp 11)⟩] []) (.seq (.block 0 (.seq (.reg [
  ⟨(some 13), none, .mov (.tmp 6)⟩,
  ⟨(some 14), none, .eqNil 1 true (.tmp 13)⟩,
  ⟨(some 12), none, .mov (.tmp 14)⟩] []) (.cond (.tmp 12) (.seq (.reg [
  ⟨(some 15), none, .mov (.tmp 6)⟩,
  ⟨(some 4), none, .mov (.tmp 15)⟩] []) .ret) (.seq (.reg [
  ⟨(some 17), none, .fieldAddr 2 2 (.tmp 5)⟩,
  ⟨(some 18), none, .load 1 false (.tmp 17)⟩,
  ⟨(some 19), none, .bin .eql (.tmp 18) (.cst (LV.int .i64 0))⟩,
  ⟨(some 16), none, .mov (.tmp 19)⟩] []) (.cond (.tmp 16) (.seq (.reg [
  ⟨(some 20), none, .call id_udp_fault [(.cst (LV.int .i64 4))]⟩,
  ⟨(some 4), none, .mov (.tmp 20)⟩] []) .ret) (.seq (.reg [
  ⟨(some 22), none, .mov (.tmp 1)⟩,
  ⟨(some 23), none, .mov (.tmp 0)⟩,
  ⟨(some 24), none, .bsl (LV.str []) 2 [(0, (.tmp 22)), (1, (.tmp 23))]⟩,
  ⟨(some 25), none, .call id_sum_Right [(.tmp 24)]⟩,
  ⟨(some 26), none, .un .not (.tmp 25)⟩,
  ⟨(some 21), none, .mov (.tmp 26)⟩] []) (.cond (.tmp 21) (.seq (.reg [
  ⟨(some 27), none, .call id_udp_fault [(.cst (LV.int .i64 9))]⟩,
  ⟨(some 4), none, .mov (.tmp 27)⟩] []) .ret) .skip))))))) (.seq (.reg [
  ⟨(some 4), none, .mov (.cst LV.nili)⟩] []) .ret)))), [.tmp 4]⟩
def c_udp_Bytes : MFn := ⟨2, 67, (.seq (.reg [
  ⟨(some 2), none, .box (.tmp 0)⟩,
  ⟨(some 4), none, .mov (.cst (LV.str []))⟩,
  ⟨(some 5), none, .mov (.cst LV.nili)⟩] []) (.seq (.reg [
  ⟨(some 13), none, .fieldAddr 0 0 (.tmp 2)⟩,
  ⟨(some 14), none, .load 1 false (.tmp 13)⟩,
  ⟨(some 15), none, .call id_num_Big [(.tmp 14), (.cst (LV.int .i64 2))]⟩,
  ⟨(some 12), none, .mov (.tmp 15)⟩,
  ⟨(some 16), none, .extract (.tmp 12) 0⟩,
  ⟨(some 17), none, .extract (.tmp 12) 1⟩,
  ⟨(some 6), none, .mov (.tmp 16)⟩,
  ⟨(some 7), none, .mov (.tmp 17)⟩] []) (.seq (.seq (.reg [
  ⟨(some 18), none, .mov (.tmp 7)⟩,
  ⟨(some 19), none, .eqNil 1 true (.tmp 18)⟩] []) (.cond (.tmp 19) (.seq (.reg [
  ⟨(some 20), none, .mov (.tmp 7)⟩,
  ⟨(some 4), none, .mov (.cst (LV.str []))⟩,
  ⟨(some 5), none, .mov (.tmp 20)⟩] []) .ret) .skip)) (.seq (.reg [
  ⟨(some 22), none, .fieldAddr 1 1 (.tmp 2)⟩,
  ⟨(some 23), none, .load 1 false (.tmp 22)⟩,
  ⟨(some 24), none, .call id_num_Big [(.tmp 23), (.cst (LV.int .i64 2))]⟩,
  ⟨(some 21), none, .mov (.tmp 24)⟩,
  ⟨(some 25), none, .extract (.tmp 21) 0⟩,
  ⟨(some 26), none, .extract (.tmp 21) 1⟩,
  ⟨(some 8), none, .mov (.tmp 25)⟩,
  ⟨(some 7), none, .mov (.tmp 26)⟩] []) (.seq (.seq (.reg [
  ⟨(some 27), none, .mov (.tmp 7)⟩,
  ⟨(some 28), none, .eqNil 1 true (.tmp 27)⟩] []) (.cond (.tmp 28) (.seq (.reg [
  ⟨(some 29), none, .mov (.tmp 7)⟩,
  ⟨(some 4), none, .mov (.cst (LV.str []))⟩,
  ⟨(some 5), none, .mov (.tmp 29)⟩] []) .ret) .skip)) (.seq (.reg [
  ⟨(some 31), none, .fieldAddr 3 3 (.tmp 2)⟩,
  ⟨(some 32), none, .load 1 false (.tmp 31)⟩,
  ⟨(some 33), none, .len true (.tmp 32)⟩,
  ⟨(some 34), none, .bin .add (.cst (LV.int .i64 8)) (.tmp 33)⟩,
  ⟨(some 35), none, .call id_num_Big [(.tmp 34), (.cst (LV.int .i64 2))]⟩,
  ⟨(some 30), none, .mov (.tmp 35)⟩,
  ⟨(some 36), none, .extract (.tmp 30) 0⟩,
  ⟨(some 37), none, .extract (.tmp 30) 1⟩,
  ⟨(some 9), none, .mov (.tmp 36)⟩,
  ⟨(some 7), none, .mov (.tmp 37)⟩] []) (.seq (.seq (.reg [
  ⟨(some 38), none, .mov (.tmp 7)⟩,
  ⟨(some 39), none, .eqNil 1 true (.tmp 38)⟩] []) (.cond (.tmp 39) (.seq (.reg [
  ⟨(some 40), none, .call id_udp_fault [(.cst (LV.int .i64 3))]⟩,
  ⟨(some 4), none, .mov (.cst (LV.str []))⟩,
  ⟨(some 5), none, .mov (.tmp 40)⟩] []) .ret) .skip)) (.seq (.reg [
  ⟨(some 41), none, .mov (.tmp 1)⟩,
  ⟨(some 42), none, .mov (.tmp 6)⟩,
  ⟨(some 43), none, .mov (.tmp 8)⟩,
  ⟨(some 44), none, .mov (.tmp 9)⟩,
  ⟨(some 45), none, .fieldAddr 3 3 (.tmp 2)⟩,
  ⟨(some 46), none, .load 1 false (.tmp 45)⟩,
  ⟨(some 47), none, .bsl (LV.str []) 6 [(0, (.tmp 41)), (1, (.tmp 42)), (2, (.tmp 43)), (3, (.tmp 44)), (4, (.cst (LV.str [0, 0]))), (5, (.tmp 46))]⟩,
  ⟨(some 48), none, .call id_sum_Of [(.tmp 47)]⟩,
  ⟨(some 10), none, .mov (.tmp 48)⟩] []) (.seq (.seq (.reg [
  ⟨(some 49), none, .mov (.tmp 10)⟩,
  ⟨(some 50), none, .bin .eql (.tmp 49) (.cst (LV.int .i64 0))⟩] []) (.cond (.tmp 50) (.reg [
  ⟨(some 10), none, .mov (.cst (LV.int .i64 65535))⟩] []) .skip)) (.seq (.reg [
  ⟨(some 52), none, .mov (.tmp 10)⟩,
  ⟨(some 53), none, .call id_num_Big [(.tmp 52), (.cst (LV.int .i64 2))]⟩,
  ⟨(some 51), none, .mov (.tmp 53)⟩,
  ⟨(some 54), none, .extract (.tmp 51) 0⟩,
  ⟨(some 55), none, .extract (.tmp 51) 1⟩,
  ⟨(some 11), none, .mov (.tmp 54)⟩,
  ⟨(some 7), none, .mov (.tmp 55)⟩] []) (.seq (.reg [
  ⟨(some 56), none, .mov (.tmp 6)⟩,
  ⟨(some 57), none, .mov (.tmp 8)⟩,
  ⟨(some 58), none, .bin .add (.tmp 56) (.tmp 57)⟩,
  ⟨(some 59), none, .mov (.tmp 9)⟩,
  ⟨(some 60), none, .bin .add (.tmp 58) (.tmp 59)⟩,
  ⟨(some 61), none, .mov (.tmp 11)⟩,
  ⟨(some 62), none, .bin .add (.tmp 60) (.tmp 61)⟩,
  ⟨(some 63), none, .fieldAddr 3 3 (.tmp 2)⟩,
  ⟨(some 64), none, .load 1 false (.tmp 63)⟩,
  ⟨(some 65), none, .bin .add (.tmp 62) (.tmp 64)⟩,
  ⟨(some 66), none, .mov (.tmp 7)⟩,
  ⟨(some 4), none, .mov (.tmp 65)⟩,
  ⟨(some 5), none, .mov (.tmp 66)⟩] []) .ret))))))))))), [.tmp 4, .tmp 5]⟩
def c_udp_fault : MFn := ⟨1, 7, (.seq (.reg [
  ⟨(some 2), none, .mov (.cst LV.nili)⟩] []) (.seq (.reg [
  ⟨(some 3), none, .mov (.tmp 0)⟩,
  ⟨(some 4), none, .build (LV.agg [(LV.int .i64 0), (LV.int .i64 0)]) [(0, (.tmp 3))]⟩,
  ⟨(some 5), none, .box (.tmp 4)⟩,
  ⟨(some 6), none, .mkIface ty_ptr_num_Fault (.tmp 5)⟩,
  ⟨(some 2), none, .mov (.tmp 6)⟩] []) .ret)), [.tmp 2]⟩
def c_udp_two : MFn := ⟨2, 16, (.seq (.reg [
  ⟨(some 4), none, .mov (.cst (LV.int .i64 0))⟩] []) (.seq (.reg [
  ⟨(some 5), none, .mov (.tmp 0)⟩,
  ⟨(some 6), none, .mov (.tmp 1)⟩,
  ⟨(some 7), none, .idxStr (.tmp 5) (.tmp 6)⟩,
  ⟨(some 8), none, .conv .i64 (.tmp 7)⟩,
  ⟨(some 9), none, .bin .shl (.tmp 8) (.cst (LV.int .u64 8))⟩,
  ⟨(some 10), none, .mov (.tmp 0)⟩,
  ⟨(some 11), none, .mov (.tmp 1)⟩,
  ⟨(some 12), none, .bin .add (.tmp 11) (.cst (LV.int .i64 1))⟩,
  ⟨(some 13), none, .idxStr (.tmp 10) (.tmp 12)⟩,
  ⟨(some 14), none, .conv .i64 (.tmp 13)⟩,
  ⟨(some 15), none, .bin .or (.tmp 9) (.tmp 14)⟩,
  ⟨(some 4), none, .mov (.tmp 15)⟩] []) .ret)), [.tmp 4]⟩
def c_sum_Right : MFn := ⟨1, 6, (.seq (.reg [
  ⟨(some 2), none, .mov (.cst (LV.bool false))⟩] []) (.seq (.reg [
  ⟨(some 3), none, .mov (.tmp 0)⟩,
  ⟨(some 4), none, .call id_sum_Of [(.tmp 3)]⟩,
  ⟨(some 5), none, .bin .eql (.tmp 4) (.cst (LV.int .i64 0))⟩,
  ⟨(some 2), none, .mov (.tmp 5)⟩] []) .ret)), [.tmp 2]⟩
def c_num_Big : MFn := ⟨2, 55, (.seq (.reg [
  ⟨(some 4), none, .mov (.cst (LV.str []))⟩,
  ⟨(some 5), none, .mov (.cst LV.nili)⟩] []) (.seq (.block 0 (.seq (.reg [
  ⟨(some 9), none, .mov (.tmp 1)⟩,
  ⟨(some 10), none, .bin .neq (.tmp 9) (.cst (LV.int .i64 1))⟩,
  ⟨(some 11), none, .mov (.tmp 10)⟩,
  ⟨(some 12), (some (11, true)), .mov (.tmp 1)⟩,
  ⟨(some 13), (some (11, true)), .bin .neq (.tmp 12) (.cst (LV.int .i64 2))⟩,
  ⟨(some 14), none, .pick (.tmp 11) (.tmp 13) (.cst (LV.bool false))⟩,
  ⟨(some 15), none, .mov (.tmp 14)⟩,
  ⟨(some 16), (some (15, true)), .mov (.tmp 1)⟩,
  ⟨(some 17), (some (15, true)), .bin .neq (.tmp 16) (.cst (LV.int .i64 4))⟩,
  ⟨(some 18), none, .pick (.tmp 15) (.tmp 17) (.cst (LV.bool false))⟩,
  ⟨(some 8), none, .mov (.tmp 18)⟩] []) (.cond (.tmp 8) (.seq (.reg [
  ⟨(some 19), none, .build (LV.agg [(LV.int .i64 0), (LV.int .i64 0)]) [(0, (.cst (LV.int .i64 1)))]⟩,
  ⟨(some 20), none, .box (.tmp 19)⟩,
  ⟨(some 21), none, .mkIface ty_ptr_num_Fault (.tmp 20)⟩,
  ⟨(some 4), none, .mov (.cst (LV.str []))⟩,
  ⟨(some 5), none, .mov (.tmp 21)⟩] []) .ret) (.seq (.reg [
  ⟨(some 23), none, .mov (.tmp 0)⟩,
  ⟨(some 24), none, .bin .lss (.tmp 23) (.cst (LV.int .i64 0))⟩,
  ⟨(some 25), none, .mov (.tmp 24)⟩,
  ⟨(some 26), (some (25, false)), .mov (.tmp 0)⟩,
  ⟨(some 27), (some (25, false)), .mov (.tmp 1)⟩,
  ⟨(some 28), (some (25, false)), .bin .mul (.cst (LV.int .i64 8)) (.tmp 27)⟩,
  ⟨(some 29), (some (25, false)), .bin .shl (.cst (LV.int .i64 1)) (.tmp 28)⟩,
  ⟨(some 30), (some (25, false)), .bin .geq (.tmp 26) (.tmp 29)⟩,
  ⟨(some 31), none, .pick (.tmp 25) (.cst (LV.bool true)) (.tmp 30)⟩,
  ⟨(some 22), none, .mov (.tmp 31)⟩] []) (.cond (.tmp 22) (.seq (.reg [
  ⟨(some 32), none, .build (LV.agg [(LV.int .i64 0), (LV.int .i64 0)]) [(0, (.cst (LV.int .i64 13)))]⟩,
  ⟨(some 33), none, .box (.tmp 32)⟩,
  ⟨(some 34), none, .mkIface ty_ptr_num_Fault (.tmp 33)⟩,
  ⟨(some 4), none, .mov (.cst (LV.str []))⟩,
  ⟨(some 5), none, .mov (.tmp 34)⟩] []) .ret) .skip))))) (.seq (.reg [
  ⟨(some 35), none, .mov (.tmp 1)⟩,
  ⟨(some 36), none, .mkSl (.tmp 35) (.tmp 35)⟩,
  ⟨(some 6), none, .mov (.tmp 36)⟩] []) (.seq (.seq (.reg [
  ⟨(some 37), none, .mov (.tmp 1)⟩,
  ⟨(some 38), none, .mov (.cst (LV.int .i64 0))⟩] []) (.block 1 (.loop [38] [39, 40, 7, 41, 42, 43, 44, 45, 46, 47, 48, 49, 50, 51, 52] (.seq (.reg [
  ⟨(some 39), none, .bin .lss (.tmp 38) (.tmp 37)⟩] []) (.seq (.cond (.tmp 39) .skip (.exit 1)) (.seq (.block 2 (.seq (.reg [
  ⟨(some 40), none, .mov (.tmp 38)⟩,
  ⟨(some 7), none, .mov (.tmp 40)⟩] []) (.reg [
  ⟨(some 41), none, .mov (.tmp 6)⟩,
  ⟨(some 42), none, .mov (.tmp 7)⟩,
  ⟨(some 43), none, .mov (.tmp 0)⟩,
  ⟨(some 44), none, .mov (.tmp 1)⟩,
  ⟨(some 45), none, .bin .sub (.tmp 44) (.cst (LV.int .i64 1))⟩,
  ⟨(some 46), none, .mov (.tmp 7)⟩,
  ⟨(some 47), none, .bin .sub (.tmp 45) (.tmp 46)⟩,
  ⟨(some 48), none, .bin .mul (.cst (LV.int .i64 8)) (.tmp 47)⟩,
  ⟨(some 49), none, .bin .shr (.tmp 43) (.tmp 48)⟩,
  ⟨(some 50), none, .conv .u8 (.tmp 49)⟩,
  ⟨(some 51), none, .idxAddr none 1 (.tmp 41) (.tmp 42)⟩,
  ⟨none, none, .store 1 false (.tmp 51) (.tmp 50)⟩] []))) (.reg [
  ⟨(some 52), none, .bin .add (.tmp 38) (.cst (LV.int .i64 1))⟩,
  ⟨(some 38), none, .mov (.tmp 52)⟩] []))))))) (.seq (.reg [
  ⟨(some 53), none, .mov (.tmp 6)⟩,
  ⟨(some 54), none, .b2s (.tmp 53)⟩,
  ⟨(some 4), none, .mov (.tmp 54)⟩,
  ⟨(some 5), none, .mov (.cst LV.nili)⟩] []) .ret))))), [.tmp 4, .tmp 5]⟩
def c_sum_Of : MFn := ⟨1, 25, (.seq (.reg [
  ⟨(some 2), none, .mov (.cst (LV.int .i64 0))⟩] []) (.seq (.reg [
  ⟨(some 3), none, .mov (.cst (LV.int .i64 0))⟩,
  ⟨(some 4), none, .mov (.cst (LV.int .i64 0))⟩] []) (.seq (.seq (.reg [
  ⟨(some 7), none, .mov (.tmp 0)⟩,
  ⟨(some 8), none, .len false (.tmp 7)⟩,
  ⟨(some 9), none, .mov (.cst (LV.int .i64 0))⟩] []) (.block 0 (.loop [3, 4, 9] [10, 11, 12, 6, 13, 14, 15, 16, 17, 18, 19, 20, 21, 22] (.seq (.reg [
  ⟨(some 10), none, .bin .lss (.tmp 9) (.tmp 8)⟩] []) (.seq (.cond (.tmp 10) .skip (.exit 0)) (.seq (.block 1 (.seq (.reg [
  ⟨(some 11), none, .idxAddr none 1 (.tmp 7) (.tmp 9)⟩,
  ⟨(some 12), none, .load 1 false (.tmp 11)⟩,
  ⟨(some 6), none, .mov (.tmp 12)⟩] []) (.seq (.reg [
  ⟨(some 13), none, .mov (.tmp 3)⟩,
  ⟨(some 14), none, .mov (.tmp 4)⟩,
  ⟨(some 15), none, .mov (.tmp 6)⟩,
  ⟨(some 16), none, .call id_sum_add [(.tmp 13), (.tmp 14), (.tmp 15), (.cst (LV.int .u8 0))]⟩,
  ⟨(some 17), none, .call id_sum_fold [(.tmp 16)]⟩,
  ⟨(some 3), none, .mov (.tmp 17)⟩] []) (.reg [
  ⟨(some 18), none, .mov (.tmp 4)⟩,
  ⟨(some 19), none, .mov (.tmp 6)⟩,
  ⟨(some 20), none, .len true (.tmp 19)⟩,
  ⟨(some 21), none, .bin .add (.tmp 18) (.tmp 20)⟩,
  ⟨(some 4), none, .mov (.tmp 21)⟩] [])))) (.reg [
  ⟨(some 22), none, .bin .add (.tmp 9) (.cst (LV.int .i64 1))⟩,
  ⟨(some 9), none, .mov (.tmp 22)⟩] []))))))) (.seq (.reg [
  ⟨(some 23), none, .mov (.tmp 3)⟩,
  ⟨(some 24), none, .bin .sub (.cst (LV.int .i64 65535)) (.tmp 23)⟩,
  ⟨(some 2), none, .mov (.tmp 24)⟩] []) .ret)))), [.tmp 2]⟩
def c_sum_fold : MFn := ⟨1, 11, (.seq (.reg [
  ⟨(some 2), none, .mov (.cst (LV.int .i64 0))⟩] []) (.seq (.block 0 (.loop [0] [3, 4, 5, 6, 7, 8, 9] (.seq (.seq (.reg [
  ⟨(some 3), none, .mov (.tmp 0)⟩,
  ⟨(some 4), none, .bin .gtr (.tmp 3) (.cst (LV.int .i64 65535))⟩] []) (.cond (.tmp 4) .skip (.exit 0))) (.block 1 (.reg [
  ⟨(some 5), none, .mov (.tmp 0)⟩,
  ⟨(some 6), none, .bin .shr (.tmp 5) (.cst (LV.int .u64 16))⟩,
  ⟨(some 7), none, .mov (.tmp 0)⟩,
  ⟨(some 8), none, .bin .and (.tmp 7) (.cst (LV.int .i64 65535))⟩,
  ⟨(some 9), none, .bin .add (.tmp 6) (.tmp 8)⟩,
  ⟨(some 0), none, .mov (.tmp 9)⟩] []))))) (.seq (.reg [
  ⟨(some 10), none, .mov (.tmp 0)⟩,
  ⟨(some 2), none, .mov (.tmp 10)⟩] []) .ret))), [.tmp 2]⟩
def c_sum_add : MFn := ⟨4, 34, (.seq (.reg [
  ⟨(some 8), none, .mov (.cst (LV.int .i64 0))⟩] []) (.seq (.seq (.reg [
  ⟨(some 11), none, .mov (.tmp 2)⟩,
  ⟨(some 12), none, .len true (.tmp 11)⟩,
  ⟨(some 13), none, .mov (.cst (LV.int .i64 0))⟩] []) (.block 0 (.loop [0, 13] [14, 15, 9, 16, 17, 18, 19, 20, 21, 10, 22, 23, 24, 25, 26, 27, 28, 29, 30, 31, 32] (.seq (.reg [
  ⟨(some 14), none, .bin .lss (.tmp 13) (.tmp 12)⟩] []) (.seq (.cond (.tmp 14) .skip (.exit 0)) (.seq (.block 1 (.seq (.reg [
  ⟨(some 15), none, .mov (.tmp 13)⟩,
  ⟨(some 9), none, .mov (.tmp 15)⟩] []) (.seq (.reg [
  ⟨(some 16), none, .mov (.tmp 2)⟩,
  ⟨(some 17), none, .mov (.tmp 9)⟩,
  ⟨(some 18), none, .idxStr (.tmp 16) (.tmp 17)⟩,
  ⟨(some 19), none, .mov (.tmp 3)⟩,
  ⟨(some 20), none, .bin .xor (.tmp 18) (.tmp 19)⟩,
  ⟨(some 21), none, .conv .i64 (.tmp 20)⟩,
  ⟨(some 10), none, .mov (.tmp 21)⟩] []) (.seq (.seq (.reg [
  ⟨(some 22), none, .mov (.tmp 1)⟩,
  ⟨(some 23), none, .mov (.tmp 9)⟩,
  ⟨(some 24), none, .bin .add (.tmp 22) (.tmp 23)⟩,
  ⟨(some 25), none, .bin .rem (.tmp 24) (.cst (LV.int .i64 2))⟩,
  ⟨(some 26), none, .bin .eql (.tmp 25) (.cst (LV.int .i64 0))⟩] []) (.cond (.tmp 26) (.reg [
  ⟨(some 27), none, .mov (.tmp 10)⟩,
  ⟨(some 28), none, .bin .shl (.tmp 27) (.cst (LV.int .u64 8))⟩,
  ⟨(some 10), none, .mov (.tmp 28)⟩] []) .skip)) (.reg [
  ⟨(some 29), none, .mov (.tmp 0)⟩,
  ⟨(some 30), none, .mov (.tmp 10)⟩,
  ⟨(some 31), none, .bin .add (.tmp 29) (.tmp 30)⟩,
  ⟨(some 0), none, .mov (.tmp 31)⟩] []))))) (.reg [
  ⟨(some 32), none, .bin .add (.tmp 13) (.cst (LV.int .i64 1))⟩,
  ⟨(some 13), none, .mov (.tmp 32)⟩] []))))))) (.seq (.reg [
  ⟨(some 33), none, .mov (.tmp 0)⟩,
  ⟨(some 8), none, .mov (.tmp 33)⟩] []) .ret))), [.tmp 8]⟩
end Go.Ev
