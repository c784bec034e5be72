/- Part 3 of a proof: what the functions yield. It stands by itself; no condition. -/
import Derived.Test.YtgellbiecjifbaaGreatE0
import Derived.Test.YtgellbiecjifbaaGreatProg
namespace Go.Ev
open Go.Proofs
set_option linter.unusedVariables false
set_option maxRecDepth 100000
def id_interpreterlaw15_FaultCarries : Nat := 3
def id_interpreterlaw15_awake : Nat := 4
def id_fault_Carry6 : Nat := 5
def id_interpreterref15_Carry6 : Nat := 6
def id_fault_Carry4 : Nat := 7
def id_interpreterref15_Carry4 : Nat := 8
def id_interpreterref03_Bytes : Nat := 9
def id_interpreterlaw15_gram : Nat := 10
def id_fault_Own4 : Nat := 11
def id_interpreterref03_Parse : Nat := 12
def id_fault_Inside4 : Nat := 13
def id_fault_Quote6 : Nat := 14
def id_icmp4_Failure : Nat := 15
def id_icmpmap_To6 : Nat := 16
def id_interpreterref15_Inside4 : Nat := 17
def id_interpreterref07_Failure : Nat := 18
def id_interpreterref15_Quote6 : Nat := 19
def id_interpreterref14_To6 : Nat := 20
def id_fault_Inside6 : Nat := 21
def id_icmp6_Failure : Nat := 22
def id_icmpmap_To4 : Nat := 23
def id_fault_Quote4 : Nat := 24
def id_interpreterref15_Inside6 : Nat := 25
def id_interpreterref08_Failure : Nat := 26
def id_interpreterref15_Quote4 : Nat := 27
def id_interpreterref14_To4 : Nat := 28
def id_interpreterref03_Why : Nat := 29
def id_interpreterref02_Of : Nat := 30
def id_strings_Repeat : Nat := 31
def id_ip4_Parse : Nat := 32
def id_class_Martian4 : Nat := 33
def id_fault_beginning : Nat := 34
def id_icmp4_Bytes : Nat := 35
def id_ip4_Bytes : Nat := 36
def id_interpreterref03_number : Nat := 37
def id_fault_fault : Nat := 38
def id_sum_Right : Nat := 39
def id_fault_Inside4_1 : Nat := 40
def id_fault_short : Nat := 41
def id_head46_Proto : Nat := 42
def id_fault_within : Nat := 43
def id_fault_big : Nat := 44
def id_fault_turn6 : Nat := 45
def id_icmpmap_sides : Nat := 46
def id_icmpmap_said : Nat := 47
def id_icmpmap_lost6 : Nat := 48
def id_icmpmap_pointer6 : Nat := 49
def id_interpreterref15_number : Nat := 50
def id_interpreterref15_little : Nat := 51
def id_interpreterref15_bound : Nat := 52
def id_interpreterref12_Proto : Nat := 53
def id_interpreterref15_turn : Nat := 54
def id_interpreterref02_Pseudo6 : Nat := 55
def id_interpreterref15_put : Nat := 56
def id_interpreterref14_bounds : Nat := 57
def id_interpreterref14_Plateau : Nat := 58
def id_interpreterref14_find : Nat := 59
def id_interpreterref14_lines6 : Nat := 60
def id_ip6_Chain : Nat := 61
def id_num_New : Nat := 62
def id_num_Reader_U32 : Nat := 63
def id_icmpmap_lost4 : Nat := 64
def id_icmpmap_pointer4 : Nat := 65
def id_head64_Proto : Nat := 66
def id_sum_Of : Nat := 67
def id_fault_turn4 : Nat := 68
def id_interpreterref04_Chain : Nat := 69
def id_interpreterref13_Proto : Nat := 70
def id_interpreterref03_within : Nat := 71
def id_interpreterref02_Total : Nat := 72
def id_interpreterref02_Words : Nat := 73
def id_ip4_fault : Nat := 80
def id_ip4_Parse_1 : Nat := 81
def id_ip4_why : Nat := 82
def id_num_Big : Nat := 83
def id_ip4_big : Nat := 84
def id_interpreterref01_Reader_Number : Nat := 85
def id_fault_ported : Nat := 86
def id_fault_echoed : Nat := 87
def id_sum_Pseudo6 : Nat := 88
def id_icmpmap_Plateau : Nat := 89
def id_interpreterref15_sums : Nat := 90
def id_interpreterref02_low : Nat := 91
def id_interpreterref01_Put : Nat := 92
def id_ip6_extends : Nat := 93
def id_ip6_fault : Nat := 94
def id_num_Reader_number : Nat := 95
def id_sum_fold : Nat := 96
def id_sum_add : Nat := 97
def id_ip4_byteful : Nat := 103
def id_interpreterref01_Reader_Text : Nat := 104
def id_fault_update : Nat := 105
def id_sum_big : Nat := 106
def id_interpreterref02_Update : Nat := 107
def id_num_Reader_Text : Nat := 108
def id_sum_Update : Nat := 111
def id_sum_even : Nat := 112
def ty_bool : Nat := 4
def ty_ptr_num_Fault : Nat := 134
noncomputable def c_interpreterlaw15_FaultCarries : MFn := (compile Tryz.prog {} Tryz.f3).getD default
noncomputable def c_interpreterlaw15_awake : MFn := (compile Tryz.prog {} Tryz.f4).getD default
noncomputable def c_fault_Carry6 : MFn := (compile Tryz.prog {} Tryz.f5).getD default
noncomputable def c_interpreterref15_Carry6 : MFn := (compile Tryz.prog {} Tryz.f6).getD default
noncomputable def c_fault_Carry4 : MFn := (compile Tryz.prog {} Tryz.f7).getD default
noncomputable def c_interpreterref15_Carry4 : MFn := (compile Tryz.prog {} Tryz.f8).getD default
noncomputable def c_interpreterref03_Bytes : MFn := (compile Tryz.prog {bytesM := [70]} Tryz.f9).getD default
noncomputable def c_interpreterlaw15_gram : MFn := (compile Tryz.prog {} Tryz.f10).getD default
noncomputable def c_fault_Own4 : MFn := (compile Tryz.prog {bx := [5]} Tryz.f11).getD default
noncomputable def c_interpreterref03_Parse : MFn := (compile Tryz.prog {} Tryz.f12).getD default
noncomputable def c_fault_Inside4 : MFn := (compile Tryz.prog {} Tryz.f13).getD default
noncomputable def c_fault_Quote6 : MFn := (compile Tryz.prog {} Tryz.f14).getD default
noncomputable def c_icmp4_Failure : MFn := (compile Tryz.prog {} Tryz.f15).getD default
noncomputable def c_icmpmap_To6 : MFn := (compile Tryz.prog {} Tryz.f16).getD default
noncomputable def c_interpreterref15_Inside4 : MFn := (compile Tryz.prog {} Tryz.f17).getD default
noncomputable def c_interpreterref07_Failure : MFn := (compile Tryz.prog {} Tryz.f18).getD default
noncomputable def c_interpreterref15_Quote6 : MFn := (compile Tryz.prog {} Tryz.f19).getD default
noncomputable def c_interpreterref14_To6 : MFn := (compile Tryz.prog {} Tryz.f20).getD default
noncomputable def c_fault_Inside6 : MFn := (compile Tryz.prog {cw := [59, 103], cf := [58, 102]} Tryz.f21).getD default
noncomputable def c_icmp6_Failure : MFn := (compile Tryz.prog {} Tryz.f22).getD default
noncomputable def c_icmpmap_To4 : MFn := (compile Tryz.prog {} Tryz.f23).getD default
noncomputable def c_fault_Quote4 : MFn := (compile Tryz.prog {} Tryz.f24).getD default
noncomputable def c_interpreterref15_Inside6 : MFn := (compile Tryz.prog {} Tryz.f25).getD default
noncomputable def c_interpreterref08_Failure : MFn := (compile Tryz.prog {} Tryz.f26).getD default
noncomputable def c_interpreterref15_Quote4 : MFn := (compile Tryz.prog {} Tryz.f27).getD default
noncomputable def c_interpreterref14_To4 : MFn := (compile Tryz.prog {} Tryz.f28).getD default
noncomputable def c_interpreterref03_Why : MFn := (compile Tryz.prog {} Tryz.f29).getD default
noncomputable def c_interpreterref02_Of : MFn := (compile Tryz.prog {} Tryz.f30).getD default
noncomputable def c_ip4_Parse : MFn := (compile Tryz.prog {} Tryz.f32).getD default
noncomputable def c_class_Martian4 : MFn := (compile Tryz.prog {} Tryz.f33).getD default
noncomputable def c_fault_beginning : MFn := (compile Tryz.prog {} Tryz.f34).getD default
noncomputable def c_icmp4_Bytes : MFn := (compile Tryz.prog {} Tryz.f35).getD default
noncomputable def c_ip4_Bytes : MFn := (compile Tryz.prog {} Tryz.f36).getD default
noncomputable def c_interpreterref03_number : MFn := (compile Tryz.prog {bx := [11], cw := [14]} Tryz.f37).getD default
noncomputable def c_fault_fault : MFn := (compile Tryz.prog {} Tryz.f38).getD default
noncomputable def c_sum_Right : MFn := (compile Tryz.prog {} Tryz.f39).getD default
noncomputable def c_fault_Inside4_1 : MFn := (compile Tryz.prog {} Tryz.f40).getD default
noncomputable def c_fault_short : MFn := (compile Tryz.prog {} Tryz.f41).getD default
noncomputable def c_head46_Proto : MFn := (compile Tryz.prog {} Tryz.f42).getD default
noncomputable def c_fault_within : MFn := (compile Tryz.prog {} Tryz.f43).getD default
noncomputable def c_fault_big : MFn := (compile Tryz.prog {} Tryz.f44).getD default
noncomputable def c_fault_turn6 : MFn := (compile Tryz.prog {} Tryz.f45).getD default
noncomputable def c_icmpmap_sides : MFn := (compile Tryz.prog {} Tryz.f46).getD default
noncomputable def c_icmpmap_said : MFn := (compile Tryz.prog {} Tryz.f47).getD default
noncomputable def c_icmpmap_lost6 : MFn := (compile Tryz.prog {} Tryz.f48).getD default
noncomputable def c_icmpmap_pointer6 : MFn := (compile Tryz.prog {} Tryz.f49).getD default
noncomputable def c_interpreterref15_number : MFn := (compile Tryz.prog {bx := [13], cw := [17]} Tryz.f50).getD default
noncomputable def c_interpreterref15_little : MFn := (compile Tryz.prog {} Tryz.f51).getD default
noncomputable def c_interpreterref15_bound : MFn := (compile Tryz.prog {} Tryz.f52).getD default
noncomputable def c_interpreterref12_Proto : MFn := (compile Tryz.prog {} Tryz.f53).getD default
noncomputable def c_interpreterref15_turn : MFn := (compile Tryz.prog {} Tryz.f54).getD default
noncomputable def c_interpreterref02_Pseudo6 : MFn := (compile Tryz.prog {} Tryz.f55).getD default
noncomputable def c_interpreterref15_put : MFn := (compile Tryz.prog {} Tryz.f56).getD default
noncomputable def c_interpreterref14_bounds : MFn := (compile Tryz.prog {} Tryz.f57).getD default
noncomputable def c_interpreterref14_Plateau : MFn := (compile Tryz.prog {} Tryz.f58).getD default
noncomputable def c_interpreterref14_find : MFn := (compile Tryz.prog {} Tryz.f59).getD default
noncomputable def c_interpreterref14_lines6 : MFn := (compile Tryz.prog {grow := [16]} Tryz.f60).getD default
noncomputable def c_ip6_Chain : MFn := (compile Tryz.prog {} Tryz.f61).getD default
noncomputable def c_num_New : MFn := (compile Tryz.prog {bx := [5]} Tryz.f62).getD default
noncomputable def c_num_Reader_U32 : MFn := (compile Tryz.prog {cw := [5]} Tryz.f63).getD default
noncomputable def c_icmpmap_lost4 : MFn := (compile Tryz.prog {} Tryz.f64).getD default
noncomputable def c_icmpmap_pointer4 : MFn := (compile Tryz.prog {} Tryz.f65).getD default
noncomputable def c_head64_Proto : MFn := (compile Tryz.prog {} Tryz.f66).getD default
noncomputable def c_sum_Of : MFn := (compile Tryz.prog {} Tryz.f67).getD default
noncomputable def c_fault_turn4 : MFn := (compile Tryz.prog {} Tryz.f68).getD default
noncomputable def c_interpreterref04_Chain : MFn := (compile Tryz.prog {nilT := [8]} Tryz.f69).getD default
noncomputable def c_interpreterref13_Proto : MFn := (compile Tryz.prog {} Tryz.f70).getD default
noncomputable def c_interpreterref03_within : MFn := (compile Tryz.prog {} Tryz.f71).getD default
noncomputable def c_interpreterref02_Total : MFn := (compile Tryz.prog {} Tryz.f72).getD default
noncomputable def c_interpreterref02_Words : MFn := (compile Tryz.prog {nilT := [3]} Tryz.f73).getD default
noncomputable def c_ip4_fault : MFn := (compile Tryz.prog {} Tryz.f80).getD default
noncomputable def c_ip4_Parse_1 : MFn := (compile Tryz.prog {} Tryz.f81).getD default
noncomputable def c_ip4_why : MFn := (compile Tryz.prog {} Tryz.f82).getD default
noncomputable def c_num_Big : MFn := (compile Tryz.prog {} Tryz.f83).getD default
noncomputable def c_ip4_big : MFn := (compile Tryz.prog {} Tryz.f84).getD default
noncomputable def c_interpreterref01_Reader_Number : MFn := (compile Tryz.prog {cw := [13]} Tryz.f85).getD default
noncomputable def c_fault_ported : MFn := (compile Tryz.prog {} Tryz.f86).getD default
noncomputable def c_fault_echoed : MFn := (compile Tryz.prog {} Tryz.f87).getD default
noncomputable def c_sum_Pseudo6 : MFn := (compile Tryz.prog {} Tryz.f88).getD default
noncomputable def c_icmpmap_Plateau : MFn := (compile Tryz.prog {} Tryz.f89).getD default
noncomputable def c_interpreterref15_sums : MFn := (compile Tryz.prog {} Tryz.f90).getD default
noncomputable def c_interpreterref02_low : MFn := (compile Tryz.prog {} Tryz.f91).getD default
noncomputable def c_interpreterref01_Put : MFn := (compile Tryz.prog {} Tryz.f92).getD default
noncomputable def c_ip6_extends : MFn := (compile Tryz.prog {} Tryz.f93).getD default
noncomputable def c_ip6_fault : MFn := (compile Tryz.prog {} Tryz.f94).getD default
noncomputable def c_num_Reader_number : MFn := (compile Tryz.prog {cw := [13]} Tryz.f95).getD default
noncomputable def c_sum_fold : MFn := (compile Tryz.prog {} Tryz.f96).getD default
noncomputable def c_sum_add : MFn := (compile Tryz.prog {} Tryz.f97).getD default
noncomputable def c_ip4_byteful : MFn := (compile Tryz.prog {} Tryz.f103).getD default
noncomputable def c_interpreterref01_Reader_Text : MFn := (compile Tryz.prog {} Tryz.f104).getD default
noncomputable def c_fault_update : MFn := (compile Tryz.prog {} Tryz.f105).getD default
noncomputable def c_sum_big : MFn := (compile Tryz.prog {} Tryz.f106).getD default
noncomputable def c_interpreterref02_Update : MFn := (compile Tryz.prog {grow := [18]} Tryz.f107).getD default
noncomputable def c_num_Reader_Text : MFn := (compile Tryz.prog {} Tryz.f108).getD default
noncomputable def c_sum_Update : MFn := (compile Tryz.prog {} Tryz.f111).getD default
noncomputable def c_sum_even : MFn := (compile Tryz.prog {} Tryz.f112).getD default
end Go.Ev
